/- A part of the proof of laws.FnExactPass. No condition beyond what its theorems say. -/
/- The statement of laws.FnExactPass over numbers and lists alone: at every input it answers true. No condition but that the numbers are those of their kinds and that no slice is longer than a Go slice can be. -/
import Derived.Test.YtfljolhhgheheaaVFnExactPassT
import Derived.Test.YtfljolhhgheheaaVFnExactPassBase
set_option linter.unusedVariables false
set_option linter.unusedSimpArgs false
namespace Go.Proofs.Ytfljolhhgheheaa.Pure
open Go.RowKit Go.Proofs.Ytfljolhhgheheaa.PFnExactPass Go.Proofs.Ytfljolhhgheheaa.Base Go.Proofs.YtfljolhhgheheaaW.PrintWords Go.Proofs.YtfljolhhgheheaaW.PrintLast Go.Proofs.YtfljolhhgheheaaW.PrintMore
def FnExactPassPure:Prop:=∀ (l0_0:List (Bool)) (l0_1:List (S79)) (l0_2:List (S90)) (a1:Int) (a2_0:Int) (a2_1:Int) (a2_2:Int) (l2_3:List (Int)),(l0_0.length≤maxLen∧∀ x∈l0_0,True)→(l0_1.length≤maxLen∧∀ x∈l0_1,((Lit.int .i64 x.f0).wf=true)∧(x.f1.length≤maxLen∧∀ y∈x.f1,(Lit.int .i64 y).wf=true))→(l0_2.length≤maxLen∧∀ x∈l0_2,((Lit.int .i64 x.f0).wf=true)∧((Lit.int .i64 x.f1).wf=true)∧((Lit.int .i64 x.f2).wf=true)∧((Lit.int .i64 x.f3).wf=true))→((Lit.int .i64 a1).wf=true)→((Lit.int .i64 a2_0).wf=true)→((Lit.int .i64 a2_1).wf=true)→((Lit.int .i64 a2_2).wf=true)→(l2_3.length≤maxLen∧∀ x∈l2_3,(Lit.int .u8 x).wf=true)→∃ k,Y49.f k l0_0 l0_1 l0_2 a1 a2_0 a2_1 a2_2 l2_3=some true
def nextI (p:Option Int) (x:Int):Bool:=match p with|none=>true|some y=>decide (y<x)
def memM (own:Int) (l:List Int):Option Int→List Int→Bool
 | _,[]=>decide (1≤own∧own≤4) && l.contains own
 | p,x :: t=>decide (1≤x∧x≤4) && (nextI p x && memM own l (some x) t)
def memberOk (own:Int) (l:List Int):Bool:=memM own l none l
abbrev MB:=S60
theorem rdMB {l:List MB} {i:Nat} {x:MB} (h:l[i]?=some x):rd_T60 l (i:Int)=x:=getD_at h
def membersOk:List MB→Bool
 | []=>true
 | x :: t=>memberOk x.f0 x.f1 && membersOk t
abbrev HB:=S86
theorem rdHB {l:List HB} {i:Nat} {x:HB} (h:l[i]?=some x):rd_T86 l (i:Int)=x:=getD_at h
def hOk (x:HB):Bool:=decide (1≤x.f0∧x.f0≤9) && (decide (1≤x.f1∧x.f1≤4) && (decide (0≤x.f2∧x.f2≤3) && decide (1≤x.f3∧x.f3≤20)))
def hBefore (a b:HB):Bool:=decide (a.f1<b.f1∨a.f1=b.f1∧a.f0<b.f0)
def hNext (p:Option HB) (x:HB):Bool:=match p with|none=>true|some y=>hBefore y x
def tabM (n:Nat):Option HB→List HB→Bool
 | _,[]=>decide (n≤12)
 | p,x :: t=>hOk x && (hNext p x && tabM n (some x) t)
def tableOk (l:List HB):Bool:=tabM l.length none l
theorem hOk_iff (x:HB):hOk x=true↔(1≤x.f0∧x.f0≤9)∧(1≤x.f1∧x.f1≤4)∧(0≤x.f2∧x.f2≤3)∧(1≤x.f3∧x.f3≤20):=by simp [hOk]
def cardOk (o:List Bool) (m:List MB) (t:List HB):Bool:=decide (1≤o.length∧o.length≤4) && (decide (m.length=o.length) && (tableOk t && membersOk m))
def frameOk (a b c:Int) (l:List Int):Bool:=decide (0≤a∧a≤9∧1≤b∧b≤9∧0≤c∧c≤4∧l.length≤30)
theorem frameOk_iff' (a b c:Int) (l:List Int):frameOk a b c l=true↔0≤a∧a≤9∧1≤b∧b≤9∧0≤c∧c≤4∧l.length≤30:=by simp [frameOk]
abbrev FrB:=Int × Int × Int × List Int × Bool
def insideM (a:Int) (l:List Int) (x y v:Int) (ld:List Int):FrB :=
 if (memberOk a l && (frameOk x y v ld && l.contains (if v=0 then a else v)))=true then (x,y,if v=0 then a else v,ld,true) else (0,0,0,[],false)
def outsideM (a:Int) (l:List Int) (x y v:Int) (ld:List Int):FrB :=
 if (memberOk a l && (frameOk x y v ld && l.contains v))=true then (x,y,if v=a then 0 else v,ld,true) else (0,0,0,[],false)
theorem insideM_length (a:Int) (l:List Int) (x y v:Int) (ld:List Int) (n:Nat) (h:ld.length≤n):(insideM a l x y v ld).2.2.2.1.length≤n:=by
 unfold insideM
 (repeat' split) <;> simp [h]
def hearM (a v:Int) (x:HB):Bool→List HB→List HB
 | put,[]=>if put then [] else [x]
 | put,y :: t=>if (!put && !hBefore y x)=true then (x :: ((if y.f0=a∧y.f1=v then [] else [y])++hearM a v x true t)) else ((if y.f0=a∧y.f1=v then [] else [y])++hearM a v x put t)
def hearX (a v p:Int):HB:=⟨a,v,p,20⟩
def hearNew (l:List HB) (a v p:Int):List HB:=hearM a v (hearX a v p) false l
def hear (l:List HB) (a v p:Int):List HB:=if tableOk (hearNew l a v p) then hearNew l a v p else l
theorem drop1_length (P:Prop) [Decidable P] (y:HB):(if P then [] else [y]).length≤1:=by split <;> simp
theorem hearM_length (a v:Int) (x:HB):∀ (l:List HB),(hearM a v x true l).length≤l.length∧(hearM a v x false l).length≤l.length+1:=by
 intro l
 induction l with
 | nil=>simp [hearM]
 | cons y t ih =>
  obtain ⟨h1,h2⟩:=ih;have h3:=drop1_length (y.f0=a∧y.f1=v) y
  constructor
  ·simp only [hearM,Bool.not_true,Bool.false_and,Bool.false_eq_true,if_false,List.length_append,List.length_cons]
   omega
  ·simp only [hearM]
   split
   ·simp only [List.length_append,List.length_cons]
    omega
   ·simp only [List.length_append,List.length_cons]
    omega
theorem hear_length (l:List HB) (a v p:Int):(hear l a v p).length≤l.length+1:=by
 unfold hear
 split
 ·exact (hearM_length a v _ l).2
 ·omega
def whereM (a v:Int):List HB→Int × Bool
 | []=>(0,false)
 | x :: t=>if x.f0=a∧x.f1=v then (x.f2,true) else whereM a v t
theorem Ev.succ {α:Type} {g:Nat→Option α} {r:α} (h:Ev (fun k=>g (k+1)) r):Ev g r:=Ev.step (fun _=>rfl) h
abbrev OB:=S65
theorem rdOB {l:List OB} {i:Nat} {x:OB} (h:l[i]?=some x):rd_T65 l (i:Int)=x:=getD_at h
def mAt (m:List MB) (p:Int):MB:=rd_T60 m p
def skipB (p q:Int) (kn:Bool) (o:List Bool) (i:Nat):Bool:=decide ((i:Int)=p) || (!(rdOf false o (i:Int)) || (kn && decide ((i:Int)≠q)))
def out1 (i:Nat) (r:FrB):List OB:=if r.2.2.2.2=true then [⟨(i:Int),⟨r.1,r.2.1,r.2.2.1,r.2.2.2.1⟩⟩] else []
def outsM (p q:Int) (kn:Bool) (o:List Bool) (x y v:Int) (ld:List Int):Nat→List MB→List OB
 | _,[]=>[]
 | i,a :: t=>(if skipB p q kn o i=true then [] else out1 i (outsideM a.f0 a.f1 x y v ld))++outsM p q kn o x y v ld (i+1) t
def passIn (o:List Bool) (m:List MB) (t:List HB) (p:Int) (r:FrB):List Bool × List MB × List HB × List OB :=
 if r.2.2.2.2=true then (o,m,hear t r.2.1 r.2.2.1 p,outsM p (whereM r.1 r.2.2.1 t).1 ((whereM r.1 r.2.2.1 t).2 && (r.1 != 0)) o r.1 r.2.1 r.2.2.1 r.2.2.2.1 0 m) else (o,m,t,[])
def passOn (o:List Bool) (m:List MB) (t:List HB) (p:Int):Prop:=cardOk o m t=true∧0≤p∧p<(o.length:Int)∧rdOf false o p=true
instance (o:List Bool) (m:List MB) (t:List HB) (p:Int):Decidable (passOn o m t p):=inferInstanceAs (Decidable (_∧_))
def passM (o:List Bool) (m:List MB) (t:List HB) (p x y v:Int) (ld:List Int):List Bool × List MB × List HB × List OB :=
 if passOn o m t p then passIn o m t p (insideM (mAt m p).f0 (mAt m p).f1 x y v ld) else (o,m,t,[])
theorem cardOk_len {o:List Bool} {m:List MB} {t:List HB} (h:cardOk o m t=true):m.length=o.length∧1≤o.length∧o.length≤4∧tableOk t=true∧membersOk m=true:=by
 simp only [cardOk,Bool.and_eq_true,decide_eq_true_eq] at h;exact ⟨h.2.1,h.1.1,h.1.2,h.2.2.1,h.2.2.2⟩
theorem out1_length (i:Nat) (r:FrB):(out1 i r).length≤1:=by
 unfold out1
 split <;> simp
theorem outsM_length (p q:Int) (kn:Bool) (o:List Bool) (x y v:Int) (ld:List Int):∀ (t:List MB) (i:Nat),(outsM p q kn o x y v ld i t).length≤t.length:=by
 intro t
 induction t with
 | nil=>intro i;simp [outsM]
 | cons a t ih =>
  intro i;have h1:=ih (i+1);have h2:=out1_length i (outsideM a.f0 a.f1 x y v ld);simp only [outsM,List.length_append,List.length_cons]
  split
  ·simp only [List.length_nil];omega
  ·omega
theorem mAt_mem {m:List MB} {p:Int} (h0:0≤p) (h1:p<(m.length:Int)):mAt m p∈m:=by
 obtain ⟨n,rfl⟩:=Int.eq_ofNat_of_zero_le h0;have hx:m[n]?=some m[n]:=List.getElem?_eq_getElem (by omega)
 have e:mAt m (n:Int)=m[n]:=rdMB hx;rw [e]
 exact List.getElem_mem _
theorem l5Copy_ev (o:List Bool) (m:List MB) (t:List HB) (ho:o.length≤4194304) (h:m.length≤4194304) (hm:∀ x∈m,x.f1.length≤4194304) (ht:t.length≤4194304):Ev (fun k=>Y8.f k o m t) (o,m,t):=by
 simp only [Y8.f,Option.bind_some,List.length_nil,Nat.zero_add,List.nil_append];simp only [if_pos (show o.length<140737488355328 by omega),if_pos (show t.length<4398046511104 by omega)]
 have:=ev_list m (fun k (acc:List MB) i=>Y8.l0 k i o m t o acc t) (fun acc r=>(o,acc++r,t)) (fun i acc=>acc.length≤i)
  (fun acc hI=>ev_end fun k=>by simp only [Y8.l0];rw [if_neg (by omega)];simp)
  (fun i acc x r hI hi _ hx ih=>by
   have hx1:=hm x (List.mem_of_getElem? hx);have e:acc++(x :: r)=(acc++[x])++r:=by simp
   rw [e]
   refine Ev.step (fun k=>?_) (ih (acc++[x]) (by simp;omega))
   simp only [Y8.l0];rw [if_pos (by omega),if_pos (by omega),rdMB hx]
   simp only [Option.bind_some,List.length_nil,Nat.zero_add,List.nil_append];rw [if_pos (by omega),if_pos (by omega),w64_succ (by omega)])
  [] (by simp)
 simpa using this
theorem l4Has_ev (l:List Int) (x:Int) (h:l.length≤4194304):Ev (fun k=>Y14.f k l x) (l.contains x):=by
 refine ev_list0 l (fun k i=>Y14.l0 k l x i) (fun t=>t.contains x)
  (ev_end fun k=>by simp only [Y14.l0];rw [if_neg (by omega)];rfl)
  (fun i y t hi _ hx ih=>?_)
 by_cases e:y=x
 ·refine ev_end fun k=>?_
  simp only [Y14.l0];rw [if_pos (by omega),if_pos (by omega),rd_at hx,if_pos e]
  simp [e]
 ·have e':(y :: t).contains x=t.contains x:=by
   have:¬ x=y:=fun h=>e h.symm
   simp [List.contains_cons,this]
  rw [e']
  refine Ev.step (fun k=>?_) ih
  simp only [Y14.l0];rw [if_pos (by omega),if_pos (by omega),rd_at hx,if_neg e,w64_succ (by omega)]
theorem l1In_eq (x lo hi:Int):Y2.f x lo hi=some (decide (lo≤x∧x≤hi)):=by
 simp only [Y2.f]
 by_cases h:lo≤x
 ·rw [if_pos h];simp [h]
 ·rw [if_neg h];simp [h]
theorem specMemberOk_ev (own:Int) (l:List Int) (h:l.length≤4194304):Ev (fun k=>Y11.f k own l) (memberOk own l):=by
 refine ev_list l (fun k (_:Option Int) i=>Y11.l0 k i own l) (fun p t=>memM own l p t) (fun i p=>p=if i=0 then none else l[i - 1]?) ?_ ?_ none rfl
 ·intro p _
  refine Ev.step (f:=fun k=>((Y2.f own 1 4).bind fun t109=>(if t109=true then ((Y14.f k l own).bind fun t110=>(some t110)) else (some false)))) (fun k=>?_) ?_
  ·simp only [Y11.l0]
   rw [if_neg (by omega)]
  ·simp only [l1In_eq,Option.bind_some,memM]
   by_cases a:1≤own∧own≤4
   ·simp only [a,and_self,decide_true,if_true,Bool.true_and]
    exact Ev.bind (l4Has_ev l own h) (ev_some fun _=>rfl)
   ·refine ev_some fun k=>?_
    simp [a]
 ·intro i p x t hI hi _ hx ih
  have ih':=ih (some x) (by simp [hx])
  have hbefore:∀ k,(if (i:Int) > 0 then (if 0≤(wrap64 ((i:Int) - 1)) then (if (wrap64 ((i:Int) - 1))<(l.length:Int) then (if (rd l (wrap64 ((i:Int) - 1))) ≥ x then (some false) else (Y11.l0 k ((i+1:Nat):Int) own l)) else (none)) else (none)) else (Y11.l0 k ((i+1:Nat):Int) own l))=if nextI p x=true then Y11.l0 k ((i+1:Nat):Int) own l else some false:=by
   intro k;cases i with
   | zero=>simp at hI;subst hI;simp [nextI]
   | succ j =>
    simp at hI
    have hj:l[j]?=some l[j]:=List.getElem?_eq_getElem (by omega)
    rw [hj] at hI
    subst hI;rw [if_pos (by omega),w64 (by omega) (by omega),show ((j+1:Nat):Int) - 1=(j:Int) by omega,if_pos (by omega),if_pos (by omega),rd_at hj]
    by_cases e:l[j]<x
    ·rw [if_neg (by omega),if_pos (by simp [nextI,e])]
    ·rw [if_pos (by omega),if_neg (by simp [nextI];omega)]
  by_cases a:1≤x∧x≤4
  ·cases hb:nextI p x with
   | true =>
    have e:memM own l p (x :: t)=memM own l (some x) t:=by simp [memM,a,hb]
    rw [e]
    refine Ev.step (fun k=>?_) ih'
    simp only [Y11.l0];rw [if_pos (by omega),if_pos (by omega),rd_at hx,w64_succ (by omega)]
    simp only [l1In_eq,Option.bind_some,a,and_self,decide_true,if_true];rw [hbefore k,if_pos hb]
   | false =>
    have e:memM own l p (x :: t)=false:=by simp [memM,hb]
    rw [e]
    refine ev_end fun k=>?_
    simp only [Y11.l0];rw [if_pos (by omega),if_pos (by omega),rd_at hx,w64_succ (by omega)]
    simp only [l1In_eq,Option.bind_some,a,and_self,decide_true,if_true];rw [hbefore k,if_neg (by simp [hb])]
  ·have e:memM own l p (x :: t)=false:=by simp [memM,a]
   rw [e]
   refine ev_end fun k=>?_
   simp only [Y11.l0];rw [if_pos (by omega),if_pos (by omega),rd_at hx]
   simp only [l1In_eq,Option.bind_some,a,decide_false,if_false,Bool.false_eq_true]
theorem l3Before_eq (a b:HB):Y62.f a.f0 a.f1 a.f2 a.f3 b.f0 b.f1 b.f2 b.f3=some (hBefore a b):=by
 simp only [Y62.f,hBefore]
 by_cases h1:a.f1<b.f1
 ·simp [h1]
 ·by_cases h2:a.f1=b.f1 <;> simp [h1,h2]
theorem specTableOk_ev (l:List HB) (h:l.length≤4194304):Ev (fun k=>Y7.f k l) (tableOk l):=by
 refine ev_list l (fun k (_:Option HB) i=>Y7.l0 k l i) (fun p t=>tabM l.length p t) (fun i p=>p=if i=0 then none else l[i - 1]?) ?_ ?_ none rfl
 ·intro p _
  refine ev_end fun k=>?_
  simp only [Y7.l0];rw [if_neg (by omega)]
  simp [tabM]
  omega
 ·intro i p x t hI hi _ hx ih
  have ih':=ih (some x) (by simp [hx])
  have hbefore:∀ k,(if (i:Int) > 0 then (if 0≤(wrap64 ((i:Int) - 1)) then (if (wrap64 ((i:Int) - 1))<(l.length:Int) then ((Y62.f ((rd_T86 l (wrap64 ((i:Int) - 1))).f0) ((rd_T86 l (wrap64 ((i:Int) - 1))).f1) ((rd_T86 l (wrap64 ((i:Int) - 1))).f2) ((rd_T86 l (wrap64 ((i:Int) - 1))).f3) x.f0 x.f1 x.f2 x.f3).bind fun t110=>(if t110=true then (Y7.l0 k l ((i+1:Nat):Int)) else (some false))) else (none)) else (none)) else (Y7.l0 k l ((i+1:Nat):Int)))=if hNext p x=true then Y7.l0 k l ((i+1:Nat):Int) else some false:=by
   intro k;cases i with
   | zero=>simp at hI;subst hI;simp [hNext]
   | succ j =>
    simp at hI
    have hj:l[j]?=some l[j]:=List.getElem?_eq_getElem (by omega)
    rw [hj] at hI
    subst hI;rw [if_pos (by omega),w64 (by omega) (by omega),show ((j+1:Nat):Int) - 1=(j:Int) by omega,if_pos (by omega),if_pos (by omega),rdHB hj,l3Before_eq]
    (simp [hNext]) <;> rfl
  cases hok:hOk x with
  | true =>
   have a:=(hOk_iff x).1 hok;cases hb:hNext p x with
   | true =>
    have e:tabM l.length p (x :: t)=tabM l.length (some x) t:=by simp [tabM,hok,hb]
    rw [e]
    refine Ev.step (fun k=>?_) ih'
    simp only [Y7.l0];rw [if_pos (by omega),if_pos (by omega),rdHB hx,w64_succ (by omega)]
    simp only [l1In_eq,Option.bind_some,a.1,a.2.1,a.2.2.1,a.2.2.2,and_self,decide_true,if_true];rw [hbefore k,if_pos hb]
   | false =>
    have e:tabM l.length p (x :: t)=false:=by simp [tabM,hb]
    rw [e]
    refine ev_end fun k=>?_
    simp only [Y7.l0];rw [if_pos (by omega),if_pos (by omega),rdHB hx,w64_succ (by omega)]
    simp only [l1In_eq,Option.bind_some,a.1,a.2.1,a.2.2.1,a.2.2.2,and_self,decide_true,if_true];rw [hbefore k,if_neg (by simp [hb])]
  | false =>
   have e:tabM l.length p (x :: t)=false:=by simp [tabM,hok]
   rw [e]
   refine ev_end fun k=>?_
   simp only [Y7.l0];rw [if_pos (by omega),if_pos (by omega),rdHB hx]
   simp only [hOk] at hok
   by_cases a1:1≤x.f0∧x.f0≤9 <;> by_cases a2:1≤x.f1∧x.f1≤4 <;> by_cases a3:0≤x.f2∧x.f2≤3 <;> by_cases a4:1≤x.f3∧x.f3≤20 <;> simp only [l1In_eq,Option.bind_some,a1,a2,a3,a4,and_self,decide_true,decide_false,if_true,if_false,Bool.false_eq_true,Bool.and_true,Bool.and_false,Bool.true_and,Bool.false_and,Bool.true_eq_false] at hok ⊢
theorem specCardOk_ev (o:List Bool) (m:List MB) (t:List HB) (ho:o.length≤4194304) (h:m.length≤4194304) (hm:∀ x∈m,x.f1.length≤4194304) (ht:t.length≤4194304):Ev (fun k=>Y9.f k o m t) (cardOk o m t):=by
 have hl:Ev (fun k=>Y9.l0 k 0 o m t) (membersOk m):=by
  refine ev_list0 m (fun k i=>Y9.l0 k i o m t) membersOk
   (ev_end fun k=>by simp only [Y9.l0];rw [if_neg (by omega)];rfl)
   (fun i x r hi _ hx ih=>?_)
  refine Ev.step (f:=fun k=>(Y11.f k x.f0 x.f1).bind fun t131=>(if t131=true then (Y9.l0 k ((i+1:Nat):Int) o m t) else (some false))) (fun k=>?_) (Ev.bind (specMemberOk_ev x.f0 x.f1 (hm x (List.mem_of_getElem? hx))) ?_)
  ·simp only [Y9.l0]
   rw [if_pos (by omega),if_pos (by omega),rdMB hx,w64_succ (by omega)]
  ·cases hx2:memberOk x.f0 x.f1 with
   | true=>simp only [if_true,membersOk,hx2,Bool.true_and];exact ih
   | false=>exact ev_some fun k=>by simp [membersOk,hx2]
 have jt:Ev (fun k=>Y9.j0 k true o m t) false:=ev_end fun k=>by simp [Y9.j0]
 have jf:Ev (fun k=>Y9.j0 k false o m t) (membersOk m):=Ev.step (fun k=>by simp only [Y9.j0,Bool.false_eq_true,if_false]) hl
 simp only [Y9.f,l1In_eq,Option.bind_some,cardOk]
 by_cases e1:1≤o.length∧o.length≤4
 ·have e1':1≤(o.length:Int)∧(o.length:Int)≤4:=by omega
  simp only [e1,e1',and_self,decide_true,if_true,Bool.true_and]
  by_cases e2:m.length=o.length
  ·have e2':(m.length:Int)=o.length:=by omega
   simp only [e2,if_pos e2',decide_true,Bool.true_and];simp only [if_true];refine Ev.bind (specTableOk_ev t ht) ?_;cases tableOk t
   ·exact jt
   ·exact jf
  ·have e2':¬ (m.length:Int)=o.length:=by omega
   simp only [e2,if_neg e2',decide_false,Bool.false_and];exact jt
 ·have e1':¬ (1≤(o.length:Int)∧(o.length:Int)≤4):=by omega
  simp only [e1,e1',decide_false,Bool.false_eq_true,if_false,Bool.false_and];exact jt
theorem specFrameOk_eq (a b c:Int) (l:List Int):Y57.f a b c l=some (frameOk a b c l):=by
 simp only [Y57.f,l1In_eq,Option.bind_some,frameOk]
 by_cases h1:0≤a∧a≤9 <;> by_cases h2:1≤b∧b≤9 <;> by_cases h3:0≤c∧c≤4 <;> by_cases h4:l.length≤30 <;> simp [h1,h2,h3,h4] <;> omega
theorem l2Copy_eq (a b c:Int) (l:List Int) (h:l.length≤4194304):Y68.f a b c l=some (a,b,c,l):=by
 simp only [Y68.f,Option.bind_some,List.length_nil,List.nil_append];rw [if_pos (by omega)]
theorem specInside_ev (a:Int) (l:List Int) (x y v:Int) (ld:List Int) (hl:l.length≤4194304) (hd:ld.length≤4194304):Ev (fun k=>Y20.f k a l x y v ld) (insideM a l x y v ld):=by
 obtain ⟨K1,h1⟩:=specMemberOk_ev a l hl;obtain ⟨K2,h2⟩:=l4Has_ev l (if v=0 then a else v) hl;refine ⟨K1+K2+1,fun k hk=>?_⟩
 obtain ⟨j,rfl⟩:∃ j,k=j+1:=⟨k - 1,by omega⟩
 have e1:=h1 j (by omega)
 have e2:=h2 j (by omega)
 simp only [Y20.f,Y20.j0,e1,specFrameOk_eq,Option.bind_some,l2Copy_eq x y v ld hd,insideM]
 by_cases hv:v=0
 ·simp only [if_pos hv] at e2 ⊢
  simp only [e2,Option.bind_some];cases memberOk a l <;> cases frameOk x y v ld <;> cases l.contains a <;> simp
 ·simp only [if_neg hv] at e2 ⊢
  simp only [e2,Option.bind_some];cases memberOk a l <;> cases frameOk x y v ld <;> cases l.contains v <;> simp
theorem specOutside_ev (a:Int) (l:List Int) (x y v:Int) (ld:List Int) (hl:l.length≤4194304) (hd:ld.length≤4194304):Ev (fun k=>Y19.f k a l x y v ld) (outsideM a l x y v ld):=by
 obtain ⟨K1,h1⟩:=specMemberOk_ev a l hl;obtain ⟨K2,h2⟩:=l4Has_ev l v hl;refine ⟨K1+K2+1,fun k hk=>?_⟩
 obtain ⟨j,rfl⟩:∃ j,k=j+1:=⟨k - 1,by omega⟩
 have e1:=h1 (j+1) (by omega)
 have e2:=h2 (j+1) (by omega)
 simp only [Y19.f,Y19.j0,e1,e2,specFrameOk_eq,Option.bind_some,l2Copy_eq x y v ld hd,outsideM]
 by_cases hv:v=a <;> cases memberOk a l <;> cases frameOk x y v ld <;> cases l.contains v <;> simp [hv]
theorem specWhere_ev (l:List HB) (a v:Int) (h:l.length≤4194304):Ev (fun k=>Y25.f k l a v) (whereM a v l):=by
 refine ev_list0 l (fun k i=>Y25.l0 k l a v i) (whereM a v)
  (ev_end fun k=>by simp only [Y25.l0];rw [if_neg (by omega)];rfl)
  (fun i x t hi _ hx ih=>?_)
 by_cases h1:x.f0=a
 ·by_cases h2:x.f1=v
  ·refine ev_end fun k=>?_
   simp only [Y25.l0];rw [if_pos (by omega),if_pos (by omega),rdHB hx,if_pos h1,if_pos h2,whereM,if_pos ⟨h1,h2⟩]
  ·rw [whereM,if_neg (by simp [h2])]
   refine Ev.step (fun k=>?_) ih
   simp only [Y25.l0];rw [if_pos (by omega),if_pos (by omega),rdHB hx,if_pos h1,if_neg h2,w64_succ (by omega)]
 ·rw [whereM,if_neg (by simp [h1])]
  refine Ev.step (fun k=>?_) ih
  simp only [Y25.l0];rw [if_pos (by omega),if_pos (by omega),rdHB hx,if_neg h1,w64_succ (by omega)]
theorem specHear_ev (l:List HB) (a v p:Int) (h:l.length≤2097152):Ev (fun k=>Y5.f k l a v p) (hear l a v p):=by
 have fin:∀ out:List HB,out.length≤4194304→Ev (fun k=>(Y7.f k out).bind fun t198=>(if t198=true then (some out) else ((some (([]:List HB):List HB)).bind fun y199=>(if y199.length+l.length<4398046511104 then (some (y199++l)) else (none))))) (if tableOk out then out else l):=by
  intro out ho;refine Ev.bind (specTableOk_ev out ho) (ev_some fun k=>?_)
  cases tableOk out with
  | true=>simp
  | false =>
   simp only [Bool.false_eq_true,if_false,Option.bind_some,List.length_nil,Nat.zero_add,List.nil_append];rw [if_pos (by omega)]
 have:=ev_list l (fun k (s:List HB × Bool) i=>Y5.l0 k l a v s.1 s.2 i a v p 20) (fun s t=>if tableOk (s.1++hearM a v (hearX a v p) s.2 t) then s.1++hearM a v (hearX a v p) s.2 t else l) (fun i s=>s.1.length≤i+(if s.2 then 1 else 0))
  (fun s hI=>by
   obtain ⟨acc,put⟩:=s;dsimp only at hI ⊢;cases put with
   | true =>
    have e:acc++hearM a v (hearX a v p) true []=acc:=by simp [hearM]
    rw [e]
    refine Ev.step (fun k=>?_) (fin acc (by simp at hI;omega))
    simp only [Y5.l0];rw [if_neg (by omega)]
    simp only [if_true]
   | false =>
    refine Ev.step (fun k=>?_) (fin (acc++hearM a v (hearX a v p) false []) (by simp [hearM] at hI ⊢;omega))
    simp only [Y5.l0];rw [if_neg (by omega)]
    simp only [Bool.false_eq_true,if_false];simp only [Bool.false_eq_true,if_false] at hI;rw [if_pos (by omega)]
    simp only [Option.bind_some,hearM,Bool.false_eq_true,if_false,hearX])
  (fun i s y t hI hi _ hy ih=>by
   obtain ⟨acc,put⟩:=s;dsimp only at hI ih ⊢;have hacc:acc.length≤2097153:=by
    cases put <;> simp at hI <;> omega
   -- the flag of the second part
   have s1:∀ k,Y5.l0 (k+1) l a v acc put (i:Int) a v p 20=Y5.j1 k l a v acc put (i:Int) (!put && !hBefore y (hearX a v p)) a v p 20:=by
    intro k;simp only [Y5.l0];rw [if_pos (by omega)]
    cases put with
    | true=>simp
    | false =>
     simp only [Bool.false_eq_true,if_false,rdHB hy];rw [if_pos (by omega)]
     have:=l3Before_eq y (hearX a v p);simp only [hearX] at this ⊢;rw [this]
     simp
   refine Ev.step s1 ?_
   by_cases hput:(!put && !hBefore y (hearX a v p))=true
   ·have hpf:put=false:=by cases put <;> simp at hput ⊢
    subst hpf;rw [hput]
    simp only [Bool.false_eq_true,if_false] at hI
    by_cases he:y.f0=a∧y.f1=v
    ·have e:acc++hearM a v (hearX a v p) false (y :: t)=(acc++[hearX a v p])++hearM a v (hearX a v p) true t:=by
      simp only [hearM];rw [if_pos hput,if_pos he]
      simp
     have:=ih (acc++[hearX a v p],true) (by simp;omega)
     rw [e]
     refine Ev.step (fun k=>?_) this
     simp only [Y5.j1,if_true];rw [if_pos (by omega)]
     simp only [Option.bind_some];rw [if_pos (by omega),if_pos (by omega),rdHB hy,if_pos he.1,if_pos he.2,w64_succ (by omega)]
     rfl
    ·have e:acc++hearM a v (hearX a v p) false (y :: t)=((acc++[hearX a v p])++[y])++hearM a v (hearX a v p) true t:=by
      simp only [hearM];rw [if_pos hput,if_neg he]
      simp
     have:=ih ((acc++[hearX a v p])++[y],true) (by simp;omega)
     rw [e]
     refine Ev.step (fun k=>?_) this
     simp only [Y5.j1,if_true];rw [if_pos (by omega)]
     simp only [Option.bind_some];rw [if_pos (by omega),if_pos (by omega),rdHB hy,w64_succ (by omega)]
     by_cases h1:y.f0=a
     ·have h2:¬ y.f1=v:=fun h=>he ⟨h1,h⟩
      rw [if_pos h1,if_neg h2,if_pos (by simp;omega)]
      rfl
     ·rw [if_neg h1,if_pos (by simp;omega)]
      rfl
   ·rw [Bool.eq_false_iff.mpr hput]
    by_cases he:y.f0=a∧y.f1=v
    ·have e:acc++hearM a v (hearX a v p) put (y :: t)=acc++hearM a v (hearX a v p) put t:=by
      simp only [hearM];rw [if_neg hput,if_pos he]
      simp
     have:=ih (acc,put) (by cases put <;> simp at hI ⊢ <;> omega)
     rw [e]
     refine Ev.step (fun k=>?_) this
     simp only [Y5.j1,Bool.false_eq_true,if_false];rw [if_pos (by omega),if_pos (by omega),rdHB hy,if_pos he.1,if_pos he.2,w64_succ (by omega)]
    ·have e:acc++hearM a v (hearX a v p) put (y :: t)=(acc++[y])++hearM a v (hearX a v p) put t:=by
      simp only [hearM];rw [if_neg hput,if_neg he]
      simp
     have:=ih (acc++[y],put) (by cases put <;> simp at hI ⊢ <;> omega)
     rw [e]
     refine Ev.step (fun k=>?_) this
     simp only [Y5.j1,Bool.false_eq_true,if_false];rw [if_pos (by omega),if_pos (by omega),rdHB hy,w64_succ (by omega)]
     by_cases h1:y.f0=a
     ·have h2:¬ y.f1=v:=fun h=>he ⟨h1,h⟩
      rw [if_pos h1,if_neg h2,if_pos (by omega)]
     ·rw [if_neg h1,if_pos (by omega)])
  ([],false) (by simp)
 simp only [List.nil_append] at this;exact this
theorem specPass_l0 (o:List Bool) (m:List MB) (t tt:List HB) (p q:Int) (kn:Bool) (x y v:Int) (ld:List Int) (ho:m.length=o.length) (h4:o.length≤4) (hm:∀ x∈m,x.f1.length≤4194304) (hld:ld.length≤4194304) :
  Ev (fun k=>Y0.l0 k p ([]:List OB) q kn 0 o m t o m tt x y v ld) (o,m,tt,outsM p q kn o x y v ld 0 m):=by
 have key:∀ (d i:Nat) (acc:List OB),i+d=m.length→acc.length≤i→Ev (fun k=>Y0.l0 k p acc q kn (i:Int) o m t o m tt x y v ld) (o,m,tt,acc++outsM p q kn o x y v ld i (m.drop i)):=by
  intro d
  induction d with
  | zero =>
   intro i acc hi ha;rw [List.drop_eq_nil_of_le (by omega)]
   refine ev_end fun k=>?_
   simp only [Y0.l0];rw [if_neg (by omega)]
   simp [outsM]
  | succ d ih =>
   intro i acc hi ha;have hx:m[i]?=some m[i]:=List.getElem?_eq_getElem (by omega)
   rw [List.drop_eq_getElem_cons (by omega)]
   simp only [outsM];have j3:∀ b,b=skipB p q kn o i→Ev (fun k=>Y0.j3 k p acc q kn (i:Int) b o m t o m tt x y v ld) (o,m,tt,acc++((if skipB p q kn o i=true then [] else out1 i (outsideM m[i].f0 m[i].f1 x y v ld))++outsM p q kn o x y v ld (i+1) (m.drop (i+1)))):=by
    intro b hb;subst hb;refine Ev.succ ?_;simp only [Y0.j3,w64_succ (show (i:Int)<4611686018427387904 by omega)]
    by_cases hs:skipB p q kn o i=true
    ·simp only [if_pos hs,List.nil_append]
     exact ih (i+1) acc (by omega) (by omega)
    ·simp only [if_neg hs,if_pos (show (i:Int)<(m.length:Int) by omega),if_pos (show (0:Int)≤(i:Int) by omega),rdMB hx]
     refine Ev.bind (specOutside_ev m[i].f0 m[i].f1 x y v ld (hm _ (List.getElem_mem _)) hld) ?_;unfold out1
     by_cases hf:(outsideM m[i].f0 m[i].f1 x y v ld).2.2.2.2=true
     ·simp only [if_pos hf,if_pos (show acc.length<2513169434916 by omega)]
      rw [← List.append_assoc]
      exact ih (i+1) _ (by omega) (by simp;omega)
     ·simp only [if_neg hf,List.nil_append]
      exact ih (i+1) acc (by omega) (by omega)
   refine Ev.succ ?_;simp only [Y0.l0,if_pos (show (i:Int)<(o.length:Int) by omega),if_pos (show (0:Int)≤(i:Int) by omega)]
   by_cases e1:(i:Int)=p
   ·simp only [if_pos e1]
    exact j3 true (by simp [skipB,e1])
   ·simp only [if_neg e1]
    by_cases e2:rdOf false o (i:Int)=true
    ·simp only [if_pos e2]
     cases kn with
     | true =>
      simp only [if_true];exact j3 _ (by simp [skipB,e1,e2,bne,BEq.beq])
     | false =>
      simp only [Bool.false_eq_true,if_false];exact j3 false (by simp [skipB,e1,e2])
    ·simp only [if_neg e2]
     exact j3 true (by simp [skipB,e1,e2])
 have:=key m.length 0 [] (by omega) (by simp)
 simpa using this
theorem specPass_ev (o:List Bool) (m:List MB) (t:List HB) (p x y v:Int) (ld:List Int) (ho:o.length≤4194304) (h:m.length≤4194304) (hm:∀ x∈m,x.f1.length≤4194304) (ht:t.length≤2097152) (hld:ld.length≤4194304):Ev (fun k=>Y0.f k o m t p x y v ld) (passM o m t p x y v ld):=by
 have ht':t.length≤4194304:=by omega
 simp only [Y0.f];refine Ev.bind (l5Copy_ev o m t ho h hm ht') ?_;simp only [Option.bind_some,l1In_eq];rw [w64 (by omega) (by omega)]
 have j0t:Ev (fun k=>Y0.j0 k p ([]:List OB) true o m t x y v ld o m t) (o,m,t,[]):=Ev.succ (by simp only [Y0.j0,if_true];exact ev_some fun _=>rfl)
 refine Ev.bind (specCardOk_ev o m t ho h hm ht') ?_;cases hc:cardOk o m t with
 | false =>
  have:passM o m t p x y v ld=(o,m,t,[]):=by unfold passM;rw [if_neg (fun h=>by rw [h.1] at hc;cases hc)]
  rw [this]
  simp only [Bool.false_eq_true,if_false];exact j0t
 | true =>
  obtain ⟨c1,c2,c3,c4,c5⟩:=cardOk_len hc;simp only [if_true]
  by_cases e1:0≤p∧p≤(o.length:Int) - 1
  ·obtain ⟨e1,e2⟩:=e1
   simp only [e1,e2,and_self,decide_true,if_true,if_pos (show p<(o.length:Int) by omega)]
   cases e3:rdOf false o p with
   | false =>
    have:passM o m t p x y v ld=(o,m,t,[]):=by unfold passM;rw [if_neg (fun h=>by rw [h.2.2.2] at e3;cases e3)]
    rw [this]
    exact j0t
   | true =>
    have:passM o m t p x y v ld=passIn o m t p (insideM (mAt m p).f0 (mAt m p).f1 x y v ld):=by unfold passM;rw [if_pos ⟨hc,e1,by omega,e3⟩]
    rw [this]
    refine Ev.succ ?_;simp only [Y0.j0,Bool.not_true,Bool.false_eq_true,if_false,if_pos e1,if_pos (show p<(m.length:Int) by omega)]
    have hmem:=mAt_mem (m:=m) e1 (by omega)
    refine Ev.bind (specInside_ev (mAt m p).f0 (mAt m p).f1 x y v ld (hm _ hmem) hld) ?_;have hil:=insideM_length (mAt m p).f0 (mAt m p).f1 x y v ld 4194304 hld;generalize insideM (mAt m p).f0 (mAt m p).f1 x y v ld=r at hil ⊢
    unfold passIn
    by_cases hr:r.2.2.2.2=true
    ·simp only [if_pos hr]
     refine Ev.bind (specWhere_ev t r.1 r.2.2.1 ht') ?_;have j1:∀ b,b=((whereM r.1 r.2.2.1 t).2 && (r.1 != 0))→Ev (fun k=>Y0.j1 k p ([]:List OB) (whereM r.1 r.2.2.1 t).1 b o m t o m t r.1 r.2.1 r.2.2.1 r.2.2.2.1) (o,m,hear t r.2.1 r.2.2.1 p,outsM p (whereM r.1 r.2.2.1 t).1 ((whereM r.1 r.2.2.1 t).2 && (r.1 != 0)) o r.1 r.2.1 r.2.2.1 r.2.2.2.1 0 m):=by
      intro b hb;subst hb;refine Ev.succ ?_;simp only [Y0.j1];refine Ev.bind (specHear_ev t r.2.1 r.2.2.1 p ht) ?_;exact specPass_l0 o m t _ p _ _ _ _ _ _ c1 c3 hm hil
     by_cases hw:(whereM r.1 r.2.2.1 t).2=true
     ·simp only [if_pos hw]
      exact j1 _ (by rw [hw,Bool.true_and])
     ·simp only [if_neg hw]
      exact j1 _ (by rw [Bool.eq_false_iff.mpr hw,Bool.false_and])
    ·simp only [if_neg hr]
     exact ev_some fun _=>rfl
  ·have e1':¬ (0≤p∧p≤(o.length:Int) - 1):=e1
   simp only [decide_eq_false e1',Bool.false_eq_true,if_false];have:passM o m t p x y v ld=(o,m,t,[]):=by unfold passM;rw [if_neg (fun h=>e1 ⟨h.2.1,by have:=h.2.2.1;omega⟩)]
   rw [this]
   exact j0t
theorem cloneB_eq (l:List Bool) (h:l.length≤4194304):Y70.f l=some l:=by
 simp only [Y70.f,Option.bind_some,List.length_nil,Nat.zero_add,List.nil_append];rw [if_pos (by omega)]
theorem cloneI_eq (l:List Int) (h:l.length≤4194304):Y79.f l=some l:=by
 simp only [Y79.f,Option.bind_some,List.length_nil,Nat.zero_add,List.nil_append];rw [if_pos (by omega)]
theorem cloneH_eq (l:List HB) (h:l.length≤4194304):Y50.f l=some l:=by
 simp only [Y50.f,Option.bind_some,List.length_nil,Nat.zero_add,List.nil_append];rw [if_pos (by omega)]
theorem copyCard_ev (o:List Bool) (m:List MB) (t:List HB) (ho:o.length≤4194304) (h:m.length≤4194304) (hm:∀ x∈m,x.f1.length≤4194304) (ht:t.length≤4194304):Ev (fun k=>Y10.f k o m t) (o,m,t):=by
 simp only [Y10.f,cloneB_eq o ho,cloneH_eq t ht,Option.bind_some];have:=ev_list m (fun k (acc:List MB) i=>Y10.l0 k m (m.length:Int) i o acc t) (fun acc r=>(o,acc++r,t)) (fun i acc=>acc.length≤i)
  (fun acc hI=>ev_end fun k=>by simp only [Y10.l0];rw [if_neg (by omega)];simp)
  (fun i acc x r hI hi _ hx ih=>by
   have e:acc++(x :: r)=(acc++[x])++r:=by simp
   rw [e]
   refine Ev.step (fun k=>?_) (ih (acc++[x]) (by simp;omega))
   simp only [Y10.l0];rw [if_pos (by omega),if_pos (by omega),if_pos (by omega),rdMB hx,cloneI_eq _ (hm x (List.mem_of_getElem? hx)),Option.bind_some,if_pos (by omega),w64_succ (by omega)])
  [] (by simp)
 simpa using this
def idxM (v:Int):Int→List Int→Int
 | _,[]=>-1
 | i,x :: t=>if v=x then i else idxM v (i+1) t
theorem idxM_iff (v:Int):∀ (l:List Int) (i:Int),0≤i→(0≤idxM v i l↔v∈l):=by
 intro l
 induction l with
 | nil=>intro i _;simp [idxM]
 | cons x t ih =>
  intro i hi;simp only [idxM]
  by_cases e:v=x
  ·simp [e,hi]
  ·rw [if_neg e,ih (i+1) (by omega)]
   simp [e]
theorem index_ev (l:List Int) (v:Int) (h:l.length≤4194304):Ev (fun k=>Y43.f k l v) (idxM v 0 l):=by
 refine ev_list l (fun k (s:Int) i=>Y43.l0 k l v (l.length:Int) i) (fun s t=>idxM v s t) (fun i s=>s=i) ?_ ?_ 0 rfl
 ·intro s _
  refine ev_end fun k=>?_
  simp only [Y43.l0];rw [if_neg (by omega)]
  rfl
 ·intro i s x t hI hi _ hx ih
  subst hI
  by_cases e:v=x
  ·refine ev_end fun k=>?_
   simp only [Y43.l0];rw [if_pos (by omega),if_pos (by omega),if_pos (by omega),rd_at hx,if_pos e,idxM,if_pos e]
  ·have:=ih ((i:Int)+1) (by omega)
   rw [idxM,if_neg e]
   refine Ev.step (fun k=>?_) this
   simp only [Y43.l0];rw [if_pos (by omega),if_pos (by omega),if_pos (by omega),rd_at hx,if_neg e,w64_succ (by omega)]
theorem contains_ev (l:List Int) (v:Int) (h:l.length≤4194304):Ev (fun k=>Y48.f k l v) (l.contains v):=by
 simp only [Y48.f];refine Ev.bind (index_ev l v h) (ev_some fun _=>?_)
 congr 1
 rw [Bool.eq_iff_iff]
 simp [idxM_iff v l 0 (by omega)]
theorem inRange_eq (x lo hi:Int):Y21.f x lo hi=some (decide (lo≤x∧x≤hi)):=by
 simp only [Y21.f]
 by_cases h:lo≤x
 ·rw [if_pos h];simp [h]
 ·rw [if_neg h];simp [h]
theorem isVlan_eq (x:Int):Y51.f x=some (decide (1≤x∧x≤4)):=by simp [Y51.f,inRange_eq]
theorem implMemberOk_ev (own:Int) (l:List Int) (h:l.length≤4194304):Ev (fun k=>Y12.f k own l) (memberOk own l):=by
 refine ev_list l (fun k (_:Option Int) i=>Y12.l0 k l (l.length:Int) i own l) (fun p t=>memM own l p t) (fun i p=>p=if i=0 then none else l[i - 1]?) ?_ ?_ none rfl
 ·intro p _
  refine Ev.step (f:=fun k=>((Y51.f own).bind fun t109=>(if t109=true then ((Y48.f k l own).bind fun t110=>(some t110)) else (some false)))) (fun k=>?_) ?_
  ·simp only [Y12.l0]
   rw [if_neg (by omega)]
  ·simp only [isVlan_eq,Option.bind_some,memM]
   by_cases a:1≤own∧own≤4
   ·simp only [a,and_self,decide_true,if_true,Bool.true_and]
    exact Ev.bind (contains_ev l own h) (ev_some fun _=>rfl)
   ·refine ev_some fun k=>?_
    simp [a]
 ·intro i p x t hI hi _ hx ih
  have ih':=ih (some x) (by simp [hx])
  have hbefore:∀ k,(if (i:Int) > 0 then (if 0≤(wrap64 ((i:Int) - 1)) then (if (wrap64 ((i:Int) - 1))<(l.length:Int) then (if x≤(rd l (wrap64 ((i:Int) - 1))) then (some false) else (Y12.l0 k l (l.length:Int) ((i+1:Nat):Int) own l)) else (none)) else (none)) else (Y12.l0 k l (l.length:Int) ((i+1:Nat):Int) own l))=if nextI p x=true then Y12.l0 k l (l.length:Int) ((i+1:Nat):Int) own l else some false:=by
   intro k;cases i with
   | zero=>simp at hI;subst hI;simp [nextI]
   | succ j =>
    simp at hI
    have hj:l[j]?=some l[j]:=List.getElem?_eq_getElem (by omega)
    rw [hj] at hI
    subst hI;rw [if_pos (by omega),w64 (by omega) (by omega),show ((j+1:Nat):Int) - 1=(j:Int) by omega,if_pos (by omega),if_pos (by omega),rd_at hj]
    by_cases e:l[j]<x
    ·rw [if_neg (by omega),if_pos (by simp [nextI,e])]
    ·rw [if_pos (by omega),if_neg (by simp [nextI];omega)]
  by_cases a:1≤x∧x≤4
  ·cases hb:nextI p x with
   | true =>
    have e:memM own l p (x :: t)=memM own l (some x) t:=by simp [memM,a,hb]
    rw [e]
    refine Ev.step (fun k=>?_) ih'
    simp only [Y12.l0];rw [if_pos (by omega),if_pos (by omega),if_pos (by omega),rd_at hx,w64_succ (by omega)]
    simp only [isVlan_eq,Option.bind_some,a,and_self,decide_true,if_true];rw [hbefore k,if_pos hb]
   | false =>
    have e:memM own l p (x :: t)=false:=by simp [memM,hb]
    rw [e]
    refine ev_end fun k=>?_
    simp only [Y12.l0];rw [if_pos (by omega),if_pos (by omega),if_pos (by omega),rd_at hx,w64_succ (by omega)]
    simp only [isVlan_eq,Option.bind_some,a,and_self,decide_true,if_true];rw [hbefore k,if_neg (by simp [hb])]
  ·have e:memM own l p (x :: t)=false:=by simp [memM,a]
   rw [e]
   refine ev_end fun k=>?_
   simp only [Y12.l0];rw [if_pos (by omega),if_pos (by omega),if_pos (by omega),rd_at hx]
   simp only [isVlan_eq,Option.bind_some,a,decide_false,if_false,Bool.false_eq_true]
theorem ahead_eq (a b:HB):Y61.f a.f0 a.f1 a.f2 a.f3 b.f0 b.f1 b.f2 b.f3=some (hBefore a b):=by
 simp only [Y61.f,hBefore]
 by_cases h1:a.f1<b.f1
 ·simp [h1]
 ·by_cases h2:a.f1=b.f1 <;> simp [h1,h2]
theorem isAddr_eq (x:Int):Y55.f x=some (decide (1≤x∧x≤9)):=by simp [Y55.f,inRange_eq]
theorem isPort_eq (x:Int):Y80.f x=some (decide (0≤x∧x≤3)):=by simp [Y80.f,inRange_eq]
theorem implTableOk_ev (l:List HB) (h:l.length≤4194304):Ev (fun k=>Y4.f k l) (tableOk l):=by
 refine ev_list l (fun k (_:Option HB) i=>Y4.l0 k l l (l.length:Int) i) (fun p t=>tabM l.length p t) (fun i p=>p=if i=0 then none else l[i - 1]?) ?_ ?_ none rfl
 ·intro p _
  refine ev_end fun k=>?_
  simp only [Y4.l0];rw [if_neg (by omega)]
  simp [tabM]
  omega
 ·intro i p x t hI hi _ hx ih
  have ih':=ih (some x) (by simp [hx])
  have s1:∀ k,Y4.l0 (k+1) l l (l.length:Int) (i:Int)=Y4.j1 k l (i:Int) l (l.length:Int) (i:Int) (!hOk x) x.f0 x.f1 x.f2 x.f3:=by
   intro k;simp only [Y4.l0];rw [if_pos (by omega),if_pos (by omega),if_pos (by omega),rdHB hx]
   simp only [isAddr_eq,isVlan_eq,isPort_eq,inRange_eq,Option.bind_some,hOk]
   by_cases a1:1≤x.f0∧x.f0≤9 <;> by_cases a2:1≤x.f1∧x.f1≤4 <;> by_cases a3:0≤x.f2∧x.f2≤3 <;> by_cases a4:1≤x.f3∧x.f3≤20 <;> simp only [a1,a2,a3,a4,and_self,decide_true,decide_false,if_true,if_false,Bool.false_eq_true,Bool.and_true,Bool.and_false,Bool.true_and,Bool.false_and,Bool.not_true,Bool.not_false]
  cases hok:hOk x with
  | true =>
   have hbefore:∀ k,Y4.j1 (k+1) l (i:Int) l (l.length:Int) (i:Int) (!true) x.f0 x.f1 x.f2 x.f3=if hNext p x=true then Y4.l0 k l l (l.length:Int) ((i+1:Nat):Int) else some false:=by
    intro k;simp only [Y4.j1,w64_succ (show (i:Int)<4611686018427387904 by omega)]
    rw [if_neg (by simp)]
    cases i with
    | zero=>simp at hI;subst hI;simp [hNext]
    | succ j =>
     simp at hI
     have hj:l[j]?=some l[j]:=List.getElem?_eq_getElem (by omega)
     rw [hj] at hI
     subst hI;rw [if_pos (by omega),w64 (by omega) (by omega),show ((j+1:Nat):Int) - 1=(j:Int) by omega,if_pos (by omega),if_pos (by omega),rdHB hj,ahead_eq]
     (simp [hNext]) <;> rfl
   cases hb:hNext p x with
   | true =>
    have e:tabM l.length p (x :: t)=tabM l.length (some x) t:=by simp [tabM,hok,hb]
    rw [e]
    refine Ev.step (fun k=>(s1 k).trans (by rw [hok])) (Ev.step (fun k=>?_) ih')
    rw [hbefore k,if_pos hb]
   | false =>
    have e:tabM l.length p (x :: t)=false:=by simp [tabM,hb]
    rw [e]
    refine Ev.step (fun k=>(s1 k).trans (by rw [hok])) (ev_end fun k=>?_)
    rw [hbefore k,if_neg (by simp [hb])]
  | false =>
   have e:tabM l.length p (x :: t)=false:=by simp [tabM,hok]
   rw [e]
   refine Ev.step (fun k=>(s1 k).trans (by rw [hok])) (ev_end fun k=>?_)
   simp only [Y4.j1];rw [if_pos (by simp)]
theorem implCardOk_ev (o:List Bool) (m:List MB) (t:List HB) (ho:o.length≤4194304) (h:m.length≤4194304) (hm:∀ x∈m,x.f1.length≤4194304) (ht:t.length≤4194304):Ev (fun k=>Y26.f k o m t) (cardOk o m t):=by
 refine ev_list0 m (fun k i=>Y26.l0 k m (m.length:Int) i o m t) (fun r=>decide (1≤o.length∧o.length≤4) && (decide (m.length=o.length) && (tableOk t && membersOk r)))
  ?_ (fun i x r hi _ hx ih=>?_)
 ·refine Ev.step (f:=fun k=>((Y21.f (o.length:Int) 1 4).bind fun t206=>(if t206=true then (if (m.length:Int)=(o.length:Int) then ((Y4.f k t).bind fun t207=>(some t207)) else (some false)) else (some false)))) (fun k=>?_) ?_
  ·simp only [Y26.l0]
   rw [if_neg (by omega)]
  ·simp only [inRange_eq,Option.bind_some,membersOk,Bool.and_true]
   by_cases e1:1≤o.length∧o.length≤4
   ·have e1':1≤(o.length:Int)∧(o.length:Int)≤4:=by omega
    simp only [e1,e1',and_self,decide_true,if_true,Bool.true_and]
    by_cases e2:m.length=o.length
    ·have e2':(m.length:Int)=o.length:=by omega
     simp only [e2,if_pos e2',decide_true,Bool.true_and];simp only [if_true];exact Ev.bind (implTableOk_ev t ht) (ev_some fun _=>rfl)
    ·have e2':¬ (m.length:Int)=o.length:=by omega
     simp only [e2,if_neg e2',decide_false,Bool.false_and];exact ev_some fun _=>rfl
   ·have e1':¬ (1≤(o.length:Int)∧(o.length:Int)≤4):=by omega
    simp only [e1,e1',decide_false,Bool.false_eq_true,if_false,Bool.false_and];exact ev_some fun _=>rfl
 ·refine Ev.step (f:=fun k=>(Y12.f k x.f0 x.f1).bind fun t131=>(if t131=true then (Y26.l0 k m (m.length:Int) ((i+1:Nat):Int) o m t) else (some false))) (fun k=>?_) (Ev.bind (implMemberOk_ev x.f0 x.f1 (hm x (List.mem_of_getElem? hx))) ?_)
  ·simp only [Y26.l0]
   rw [if_pos (by omega),if_pos (by omega),if_pos (by omega),rdMB hx,w64_succ (by omega)]
  ·cases hx2:memberOk x.f0 x.f1 with
   | true=>simp only [if_true,membersOk,hx2,Bool.true_and];exact ih
   | false =>
    refine ev_some fun k=>?_
    simp [membersOk,hx2]
theorem implFrameOk_eq (a b c:Int) (l:List Int):Y67.f a b c l=some (frameOk a b c l):=by
 simp only [Y67.f,inRange_eq,isAddr_eq,Option.bind_some,frameOk]
 by_cases h1:0≤a∧a≤9 <;> by_cases h2:1≤b∧b≤9 <;> by_cases h3:0≤c∧c≤4 <;> by_cases h4:l.length≤30 <;> simp [h1,h2,h3,h4] <;> omega
theorem clone_eq (l:List Int) (h:l.length≤4194304):Y77.f l=some l:=by
 simp only [Y77.f,Option.bind_some,List.length_nil,List.nil_append];rw [if_pos (by omega)]
theorem copyFrame_eq (a b c:Int) (l:List Int) (h:l.length≤4194304):Y58.f a b c l=some (a,b,c,l):=by
 simp [Y58.f,clone_eq l h]
theorem implInside_ev (a:Int) (l:List Int) (x y v:Int) (ld:List Int) (hl:l.length≤4194304) (hd:ld.length≤4194304):Ev (fun k=>Y24.f k a l x y v ld) (insideM a l x y v ld):=by
 obtain ⟨K1,h1⟩:=implMemberOk_ev a l hl;obtain ⟨K2,h2⟩:=contains_ev l (if v=0 then a else v) hl;refine ⟨K1+K2+1,fun k hk=>?_⟩
 obtain ⟨j,rfl⟩:∃ j,k=j+1:=⟨k - 1,by omega⟩
 have e1:=h1 (j+1) (by omega)
 have e2:=h2 j (by omega)
 simp only [Y24.f,Y24.j0,e1,implFrameOk_eq,Option.bind_some,copyFrame_eq x y v ld hd,insideM];cases memberOk a l
 ·simp
 ·cases frameOk x y v ld
  ·simp
  ·by_cases hv:v=0
   ·simp only [if_pos hv] at e2 ⊢
    simp only [e2,Option.bind_some,if_true,Bool.true_and,Bool.not_true,Bool.false_eq_true,if_false];cases l.contains a <;> simp
   ·simp only [if_neg hv] at e2 ⊢
    simp only [e2,Option.bind_some,if_true,Bool.true_and,Bool.not_true,Bool.false_eq_true,if_false];cases l.contains v <;> simp
theorem implOutside_ev (a:Int) (l:List Int) (x y v:Int) (ld:List Int) (hl:l.length≤4194304) (hd:ld.length≤4194304):Ev (fun k=>Y22.f k a l x y v ld) (outsideM a l x y v ld):=by
 obtain ⟨K1,h1⟩:=implMemberOk_ev a l hl;obtain ⟨K2,h2⟩:=contains_ev l v hl;refine ⟨K1+K2+1,fun k hk=>?_⟩
 obtain ⟨j,rfl⟩:∃ j,k=j+1:=⟨k - 1,by omega⟩
 have e1:=h1 (j+1) (by omega)
 have e2:=h2 (j+1) (by omega)
 simp only [Y22.f,Y22.j0,e1,e2,implFrameOk_eq,Option.bind_some,copyFrame_eq x y v ld hd,outsideM]
 by_cases hv:v=a <;> cases memberOk a l <;> cases frameOk x y v ld <;> cases l.contains v <;> simp [hv]
theorem implWhere_ev (l:List HB) (a v:Int) (h:l.length≤4194304):Ev (fun k=>Y23.f k l a v) (whereM a v l):=by
 refine ev_list0 l (fun k i=>Y23.l0 k a v l (l.length:Int) i) (whereM a v)
  (ev_end fun k=>by simp only [Y23.l0];rw [if_neg (by omega)];rfl)
  (fun i x t hi _ hx ih=>?_)
 by_cases h1:x.f0=a
 ·by_cases h2:x.f1=v
  ·refine ev_end fun k=>?_
   simp only [Y23.l0];rw [if_pos (by omega),if_pos (by omega),if_pos (by omega),rdHB hx,if_pos h1,if_pos h2,whereM,if_pos ⟨h1,h2⟩]
  ·rw [whereM,if_neg (by simp [h2])]
   refine Ev.step (fun k=>?_) ih
   simp only [Y23.l0];rw [if_pos (by omega),if_pos (by omega),if_pos (by omega),rdHB hx,if_pos h1,if_neg h2,w64_succ (by omega)]
 ·rw [whereM,if_neg (by simp [h1])]
  refine Ev.step (fun k=>?_) ih
  simp only [Y23.l0];rw [if_pos (by omega),if_pos (by omega),if_pos (by omega),rdHB hx,if_neg h1,w64_succ (by omega)]
def othersM (a v:Int) (l:List HB):List HB:=l.filter fun x=>!(decide (x.f0=a∧x.f1=v))
theorem othersM_length (a v:Int) (l:List HB):(othersM a v l).length≤l.length:=List.length_filter_le _ _
theorem implOthers_ev (l:List HB) (a v:Int) (h:l.length≤4194304):Ev (fun k=>Y15.f k l a v) (othersM a v l):=by
 have:=ev_list l (fun k (acc:List HB) i=>Y15.l0 k a v acc l (l.length:Int) i) (fun acc t=>acc++othersM a v t) (fun i acc=>acc.length≤i)
  (fun acc hI=>ev_end fun k=>by simp only [Y15.l0];rw [if_neg (by omega)];simp [othersM])
  (fun i acc x t hI hi _ hx ih=>by
   by_cases hp:x.f0=a∧x.f1=v
   ·have hd:(!(decide (x.f0=a∧x.f1=v)))=false:=by rw [decide_eq_true hp];rfl
    have e:acc++othersM a v (x :: t)=acc++othersM a v t:=by simp only [othersM,List.filter_cons,hd,Bool.false_eq_true,if_false]
    rw [e]
    refine Ev.step (fun k=>?_) (ih acc (by omega))
    simp only [Y15.l0];rw [if_pos (by omega),if_pos (by omega),if_pos (by omega),rdHB hx,if_pos hp.1,if_pos hp.2,w64_succ (by omega)]
   ·have hd:(!(decide (x.f0=a∧x.f1=v)))=true:=by rw [decide_eq_false hp];rfl
    have e:acc++othersM a v (x :: t)=(acc++[x])++othersM a v t:=by simp only [othersM,List.filter_cons,hd,if_true,List.append_assoc,List.cons_append,List.nil_append]
    rw [e]
    refine Ev.step (fun k=>?_) (ih (acc++[x]) (by simp;omega))
    simp only [Y15.l0];rw [if_pos (by omega),if_pos (by omega),if_pos (by omega),rdHB hx,w64_succ (by omega)]
    by_cases h1:x.f0=a
    ·have h2:¬ x.f1=v:=fun h=>hp ⟨h1,h⟩
     rw [if_pos h1,if_neg h2,if_pos (by omega)]
    ·rw [if_neg h1,if_pos (by omega)])
  [] (by simp)
 simpa [Y15.f] using this
theorem cloneHeard_eq (l:List HB) (h:l.length≤4194304):Y50.f l=some l:=by
 simp only [Y50.f,Option.bind_some,List.length_nil,Nat.zero_add,List.nil_append];rw [if_pos (by omega)]
theorem growHeard_eq (n:Int) (h0:0≤n) (h1:n≤1099511627776):Y71.f ([]:List HB) n=some []:=by
 simp only [Y71.f];rw [if_pos ⟨h0,h1⟩]
theorem concatHeard_ev (A B C:List HB) (h:A.length+B.length+C.length≤8388608):Ev (fun k=>Y3.f k [A,B,C]) (A++(B++C)):=by
 have r0:rd_L11 [A,B,C] 0=A:=rfl;have r1:rd_L11 [A,B,C] 1=B:=rfl;have r2:rd_L11 [A,B,C] 2=C:=rfl;have e3:(([A,B,C]:List (List HB)).length:Int)=3:=rfl;have s1:∀ k,Y3.l0 (k+1) [A,B,C] 0 [A,B,C] 3 0=Y3.l0 k [A,B,C] (A.length:Int) [A,B,C] 3 1:=by
  intro k;simp only [Y3.l0,r0,e3];rw [if_pos (by omega),if_pos (by omega),if_pos (by omega),w64 (x:=0+(A.length:Int)) (by omega) (by omega),if_neg (by omega),w64 (x:=0+1) (by omega) (by omega)]
  simp
 have s2:∀ k,Y3.l0 (k+1) [A,B,C] (A.length:Int) [A,B,C] 3 1=Y3.l0 k [A,B,C] ((A.length:Int)+B.length) [A,B,C] 3 2:=by
  intro k;simp only [Y3.l0,r1,e3];rw [if_pos (by omega),if_pos (by omega),if_pos (by omega),w64 (x:=(A.length:Int)+(B.length:Int)) (by omega) (by omega),if_neg (by omega),w64 (x:=1+1) (by omega) (by omega)]
  rfl
 have s3:∀ k,Y3.l0 (k+1) [A,B,C] ((A.length:Int)+B.length) [A,B,C] 3 2=Y3.l0 k [A,B,C] ((A.length:Int)+B.length+C.length) [A,B,C] 3 3:=by
  intro k;simp only [Y3.l0,r2,e3];rw [if_pos (by omega),if_pos (by omega),if_pos (by omega),w64 (x:=(A.length:Int)+(B.length:Int)+C.length) (by omega) (by omega),if_neg (by omega),w64 (x:=2+1) (by omega) (by omega)]
  rfl
 have s4:∀ k,Y3.l0 (k+1) [A,B,C] ((A.length:Int)+B.length+C.length) [A,B,C] 3 3=Y3.l1 k [] [A,B,C] 3 0:=by
  intro k;simp only [Y3.l0,e3];rw [if_neg (by omega),growHeard_eq _ (by omega) (by omega)]
  rfl
 have t1:∀ k,Y3.l1 (k+1) [] [A,B,C] 3 0=Y3.l1 k A [A,B,C] 3 1:=by
  intro k;simp only [Y3.l1,r0,e3];rw [if_pos (by omega),if_pos (by omega),if_pos (by omega),if_pos (by simp;omega),w64 (x:=0+1) (by omega) (by omega)]
  simp
 have t2:∀ k,Y3.l1 (k+1) A [A,B,C] 3 1=Y3.l1 k (A++B) [A,B,C] 3 2:=by
  intro k;simp only [Y3.l1,r1,e3];rw [if_pos (by omega),if_pos (by omega),if_pos (by omega),if_pos (by omega),w64 (x:=1+1) (by omega) (by omega)]
  rfl
 have t3:∀ k,Y3.l1 (k+1) (A++B) [A,B,C] 3 2=Y3.l1 k (A++(B++C)) [A,B,C] 3 3:=by
  intro k;simp only [Y3.l1,r2,e3];rw [if_pos (by omega),if_pos (by omega),if_pos (by omega),if_pos (by simp;omega),w64 (x:=2+1) (by omega) (by omega),List.append_assoc]
  rfl
 have t4:∀ k,Y3.l1 (k+1) (A++(B++C)) [A,B,C] 3 3=some (A++(B++C)):=by
  intro k;simp only [Y3.l1,e3];rw [if_neg (by omega)]
 have z8:Ev (fun k=>Y3.l1 k (A++(B++C)) [A,B,C] 3 3) (A++(B++C)):=ev_end t4
 have z7:Ev (fun k=>Y3.l1 k (A++B) [A,B,C] 3 2) (A++(B++C)):=Ev.step t3 z8
 have z6:Ev (fun k=>Y3.l1 k A [A,B,C] 3 1) (A++(B++C)):=Ev.step t2 z7
 have z5:Ev (fun k=>Y3.l1 k [] [A,B,C] 3 0) (A++(B++C)):=Ev.step t1 z6
 have z4:Ev (fun k=>Y3.l0 k [A,B,C] ((A.length:Int)+B.length+C.length) [A,B,C] 3 3) (A++(B++C)):=Ev.step s4 z5
 have z3:Ev (fun k=>Y3.l0 k [A,B,C] ((A.length:Int)+B.length) [A,B,C] 3 2) (A++(B++C)):=Ev.step s3 z4
 have z2:Ev (fun k=>Y3.l0 k [A,B,C] (A.length:Int) [A,B,C] 3 1) (A++(B++C)):=Ev.step s2 z3
 have z1:Ev (fun k=>Y3.l0 k [A,B,C] 0 [A,B,C] 3 0) (A++(B++C)):=Ev.step s1 z2
 refine Ev.congr (fun k=>?_) z1
 simp only [Y3.f,e3]
theorem hearM_true (a v:Int) (x:HB):∀ t,hearM a v x true t=othersM a v t
 | []=>rfl
 | y :: t=>by
  simp only [hearM,Bool.not_true,Bool.false_and,Bool.false_eq_true,if_false,hearM_true a v x t,othersM,List.filter_cons]
  by_cases h:y.f0=a∧y.f1=v <;> simp [h]
def aheadN (x:HB):List HB→Nat
 | []=>0
 | y :: t=>if hBefore y x=true then aheadN x t+1 else 0
theorem hearM_cut (a v:Int) (x:HB):∀ l,hearM a v x false l=othersM a v (l.take (aheadN x l))++([x]++othersM a v (l.drop (aheadN x l)))
 | []=>rfl
 | y :: t=>by
  by_cases hb:hBefore y x=true
  ·simp only [hearM,aheadN,hb,Bool.not_false,Bool.not_true,Bool.and_false,Bool.false_eq_true,if_false,if_true,List.take_succ_cons,List.drop_succ_cons,hearM_cut a v x t]
   simp only [othersM,List.filter_cons]
   by_cases h:y.f0=a∧y.f1=v <;> simp [h]
  ·have hb':hBefore y x=false:=by simpa using hb
   simp only [hearM,aheadN,hb',Bool.not_false,Bool.and_true,Bool.false_eq_true,if_false,if_true,List.take_zero,List.drop_zero,hearM_true];simp only [othersM,List.filter_cons,List.filter_nil,List.nil_append]
   by_cases h:y.f0=a∧y.f1=v <;> simp [h]
theorem implHear_j (l:List HB) (a v p:Int) (n:Nat) (h:l.length≤2097152) (hn:n≤l.length) (he:n=aheadN (hearX a v p) l):Ev (fun k=>Y6.j1 k l a v l (n:Int) a v p 20) (hear l a v p):=by
 have h1:=implOthers_ev (l.take n) a v (by rw [List.length_take];omega)
 have h2:=implOthers_ev (l.drop n) a v (by rw [List.length_drop];omega)
 have l1:=othersM_length a v (l.take n);have l2:=othersM_length a v (l.drop n);rw [List.length_take] at l1
 rw [List.length_drop] at l2
 have h3:=concatHeard_ev (othersM a v (l.take n)) [⟨a,v,p,20⟩] (othersM a v (l.drop n)) (by simp;omega)
 have e:othersM a v (l.take n)++([⟨a,v,p,20⟩]++othersM a v (l.drop n))=hearNew l a v p:=by
  rw [hearNew,hearM_cut,he]
  rfl
 rw [e] at h3
 have ln:(hearNew l a v p).length≤l.length+1:=(hearM_length a v _ l).2;refine Ev.step (f:=fun k=>_) (fun k=>by simp only [Y6.j1,Int.toNat_natCast];rw [if_pos (by omega),if_pos (by omega)]) ?_
 refine Ev.bind h1 (Ev.bind h2 (Ev.bind h3 (Ev.bind (implTableOk_ev _ (by omega)) (ev_some fun k=>?_))))
 unfold hear
 by_cases ht:tableOk (hearNew l a v p)=true
 ·rw [if_pos ht,if_pos ht]
 ·rw [if_neg ht,if_neg ht,cloneHeard_eq l (by omega)]
  rfl
theorem implHear_ev (l:List HB) (a v p:Int) (h:l.length≤2097152):Ev (fun k=>Y6.f k l a v p) (hear l a v p):=by
 have key:∀ (d i:Nat),i+d=l.length→aheadN (hearX a v p) l=i+aheadN (hearX a v p) (l.drop i)→Ev (fun k=>Y6.l0 k l a v l (i:Int) a v p 20) (hear l a v p):=by
  intro d
  induction d with
  | zero =>
   intro i hi ha;refine Ev.step (fun k=>?_) (implHear_j l a v p i h (by omega) ?_)
   ·simp only [Y6.l0]
    rw [if_neg (by omega)]
   ·rw [ha,List.drop_eq_nil_of_le (by omega)]
    rfl
  | succ d ih =>
   intro i hi ha;have hx:l[i]?=some l[i]:=List.getElem?_eq_getElem (by omega)
   rw [List.drop_eq_getElem_cons (by omega)] at ha
   simp only [aheadN] at ha;have hq:=ahead_eq (l[i]) (hearX a v p);simp only [hearX] at hq
   by_cases hb:hBefore l[i] (hearX a v p)=true
   ·rw [if_pos hb] at ha
    refine Ev.step (fun k=>?_) (ih (i+1) (by omega) (by omega))
    simp only [Y6.l0];rw [if_pos (by omega),if_pos (by omega),rdHB hx,hq]
    simp only [hearX] at hb;simp only [Option.bind_some,hb,if_true];rw [w64_succ (by omega)]
   ·rw [if_neg hb] at ha
    refine Ev.step (fun k=>?_) (implHear_j l a v p i h (by omega) (by omega))
    simp only [Y6.l0];rw [if_pos (by omega),if_pos (by omega),rdHB hx,hq]
    simp only [hearX] at hb;have hb':hBefore l[i] ⟨a,v,p,20⟩=false:=by simpa using hb
    simp only [Option.bind_some,hb',Bool.false_eq_true,if_false]
 refine Ev.congr (fun k=>?_) (key l.length 0 (by omega) (by simp))
 simp only [Y6.f,cloneHeard_eq l (by omega),Option.bind_some]
 rfl
theorem isOpen_eq (o:List Bool) (m:List MB) (t:List HB) (p:Int) (ho:o.length≤4194304):Y76.f o m t p=some (decide (0≤p∧p<(o.length:Int)) && rdOf false o p):=by
 simp only [Y76.f,inRange_eq,Option.bind_some];rw [w64 (by omega) (by omega)]
 by_cases e1:0≤p∧p<(o.length:Int)
 ·rw [if_pos (by simp;omega),if_pos e1.1,if_pos e1.2]
  simp [e1]
 ·rw [if_neg (by simp;omega)]
  have:decide (0≤p∧p<(o.length:Int))=false:=decide_eq_false e1;rw [this,Bool.false_and]
theorem implPass_l0 (o:List Bool) (m:List MB) (t tt:List HB) (p q:Int) (kn:Bool) (x y v:Int) (ld:List Int) (ho:m.length=o.length) (h4:o.length≤4) (hm:∀ x∈m,x.f1.length≤4194304) (hld:ld.length≤4194304) :
  Ev (fun k=>Y1.l0 k p q kn ([]:List OB) m (m.length:Int) 0 o m t o m tt x y v ld) (o,m,tt,outsM p q kn o x y v ld 0 m):=by
 have key:∀ (d i:Nat) (acc:List OB),i+d=m.length→acc.length≤i→Ev (fun k=>Y1.l0 k p q kn acc m (m.length:Int) (i:Int) o m t o m tt x y v ld) (o,m,tt,acc++outsM p q kn o x y v ld i (m.drop i)):=by
  intro d
  induction d with
  | zero =>
   intro i acc hi ha;rw [List.drop_eq_nil_of_le (by omega)]
   refine ev_end fun k=>?_
   simp only [Y1.l0];rw [if_neg (by omega)]
   simp [outsM]
  | succ d ih =>
   intro i acc hi ha;have hx:m[i]?=some m[i]:=List.getElem?_eq_getElem (by omega)
   rw [List.drop_eq_getElem_cons (by omega)]
   simp only [outsM];have j3:∀ b,b=skipB p q kn o i→Ev (fun k=>Y1.j3 k p q kn acc (i:Int) m (m.length:Int) (i:Int) b o m t o m tt x y v ld m[i].f0 m[i].f1) (o,m,tt,acc++((if skipB p q kn o i=true then [] else out1 i (outsideM m[i].f0 m[i].f1 x y v ld))++outsM p q kn o x y v ld (i+1) (m.drop (i+1)))):=by
    intro b hb;subst hb;refine Ev.succ ?_;simp only [Y1.j3,w64_succ (show (i:Int)<4611686018427387904 by omega)]
    by_cases hs:skipB p q kn o i=true
    ·simp only [if_pos hs,List.nil_append]
     exact ih (i+1) acc (by omega) (by omega)
    ·simp only [if_neg hs]
     refine Ev.bind (implOutside_ev m[i].f0 m[i].f1 x y v ld (hm _ (List.getElem_mem _)) hld) ?_;unfold out1
     by_cases hf:(outsideM m[i].f0 m[i].f1 x y v ld).2.2.2.2=true
     ·simp only [if_pos hf,if_pos (show acc.length<2513169434916 by omega)]
      rw [← List.append_assoc]
      exact ih (i+1) _ (by omega) (by simp;omega)
     ·simp only [if_neg hf,List.nil_append]
      exact ih (i+1) acc (by omega) (by omega)
   refine Ev.succ ?_;simp only [Y1.l0,if_pos (show (i:Int)<(m.length:Int) by omega),if_pos (show (0:Int)≤(i:Int) by omega),if_pos (show (i:Int)<(o.length:Int) by omega),rdMB hx]
   by_cases e1:(i:Int)=p
   ·simp only [if_pos e1]
    exact j3 true (by simp [skipB,e1])
   ·simp only [if_neg e1]
    by_cases e2:rdOf false o (i:Int)=true
    ·simp only [if_pos e2]
     cases kn with
     | true =>
      simp only [if_true];exact j3 _ (by simp [skipB,e1,e2,bne,BEq.beq])
     | false =>
      simp only [Bool.false_eq_true,if_false];exact j3 false (by simp [skipB,e1,e2])
    ·simp only [if_neg e2]
     exact j3 true (by simp [skipB,e1,e2])
 have:=key m.length 0 [] (by omega) (by simp)
 simpa using this
theorem implPass_ev (o:List Bool) (m:List MB) (t:List HB) (p x y v:Int) (ld:List Int) (ho:o.length≤4194304) (h:m.length≤4194304) (hm:∀ x∈m,x.f1.length≤4194304) (ht:t.length≤2097152) (hld:ld.length≤4194304):Ev (fun k=>Y1.f k o m t p x y v ld) (passM o m t p x y v ld):=by
 have ht':t.length≤4194304:=by omega
 simp only [Y1.f];refine Ev.bind (copyCard_ev o m t ho h hm ht') ?_;simp only [isOpen_eq o m t p ho,Option.bind_some];have j0t:Ev (fun k=>Y1.j0 k p true o m t x y v ld o m t) (o,m,t,[]):=Ev.succ (by simp only [Y1.j0,if_true];exact ev_some fun _=>rfl)
 by_cases e1:(decide (0≤p∧p<(o.length:Int)) && rdOf false o p)=true
 ·simp only [if_pos e1]
  refine Ev.bind (implCardOk_ev o m t ho h hm ht') ?_;simp only [Bool.and_eq_true,decide_eq_true_eq] at e1;obtain ⟨⟨e1,e2⟩,e3⟩:=e1;cases hc:cardOk o m t with
  | false =>
   have:passM o m t p x y v ld=(o,m,t,[]):=by unfold passM;rw [if_neg (fun h=>by rw [h.1] at hc;cases hc)]
   rw [this]
   exact j0t
  | true =>
   obtain ⟨c1,c2,c3,c4,c5⟩:=cardOk_len hc;have:passM o m t p x y v ld=passIn o m t p (insideM (mAt m p).f0 (mAt m p).f1 x y v ld):=by unfold passM;rw [if_pos ⟨hc,e1,e2,e3⟩]
   rw [this]
   refine Ev.succ ?_;simp only [Y1.j0,Bool.not_true,Bool.false_eq_true,if_false,if_pos e1,if_pos (show p<(m.length:Int) by omega)]
   have hmem:=mAt_mem (m:=m) e1 (by omega)
   refine Ev.bind (implInside_ev (mAt m p).f0 (mAt m p).f1 x y v ld (hm _ hmem) hld) ?_;have hil:=insideM_length (mAt m p).f0 (mAt m p).f1 x y v ld 4194304 hld;generalize insideM (mAt m p).f0 (mAt m p).f1 x y v ld=r at hil ⊢
   unfold passIn
   by_cases hr:r.2.2.2.2=true
   ·simp only [if_pos hr]
    refine Ev.bind (implWhere_ev t r.1 r.2.2.1 ht') ?_;have j1:∀ b,b=((whereM r.1 r.2.2.1 t).2 && (r.1 != 0))→Ev (fun k=>Y1.j1 k p (whereM r.1 r.2.2.1 t).1 b o m t o m t r.1 r.2.1 r.2.2.1 r.2.2.2.1) (o,m,hear t r.2.1 r.2.2.1 p,outsM p (whereM r.1 r.2.2.1 t).1 ((whereM r.1 r.2.2.1 t).2 && (r.1 != 0)) o r.1 r.2.1 r.2.2.1 r.2.2.2.1 0 m):=by
     intro b hb;subst hb;refine Ev.succ ?_;simp only [Y1.j1];refine Ev.bind (implHear_ev t r.2.1 r.2.2.1 p ht) ?_;exact implPass_l0 o m t _ p _ _ _ _ _ _ c1 c3 hm hil
    by_cases hw:(whereM r.1 r.2.2.1 t).2=true
    ·simp only [if_pos hw]
     exact j1 _ (by rw [hw,Bool.true_and])
    ·simp only [if_neg hw]
     exact j1 _ (by rw [Bool.eq_false_iff.mpr hw,Bool.false_and])
   ·simp only [if_neg hr]
    exact ev_some fun _=>rfl
 ·simp only [if_neg e1]
  have:passM o m t p x y v ld=(o,m,t,[]):=by
   unfold passM
   rw [if_neg (fun h=>e1 (by simp [h.2.1,h.2.2.1,h.2.2.2]))]
  rw [this]
  exact j0t
theorem outside_ok {a:Int} {l:List Int} {x y v:Int} {ld:List Int} (h:(outsideM a l x y v ld).2.2.2.2=true) :
  frameOk (outsideM a l x y v ld).1 (outsideM a l x y v ld).2.1 (outsideM a l x y v ld).2.2.1 (outsideM a l x y v ld).2.2.2.1=true:=by
 unfold outsideM at h ⊢
 by_cases hc:(memberOk a l && (frameOk x y v ld && l.contains v))=true
 ·rw [if_pos hc]
  simp only [Bool.and_eq_true] at hc;have hff:=(frameOk_iff' x y v ld).1 hc.2.1;exact (frameOk_iff' x y _ ld).2 (by dsimp only;split <;> omega)
 ·rw [if_neg hc] at h
  cases h
theorem outsM_mem (p q:Int) (kn:Bool) (o:List Bool) (x y v:Int) (ld:List Int):∀ (t:List MB) (i:Nat) (z:OB),z∈outsM p q kn o x y v ld i t→(∃ j:Nat,i≤j∧j<i+t.length∧z.f0=(j:Int)∧skipB p q kn o j=false)∧frameOk z.f1.f0 z.f1.f1 z.f1.f2 z.f1.f3=true:=by
 intro t
 induction t with
 | nil=>intro i z hz;simp [outsM] at hz
 | cons a t ih =>
  intro i z hz;simp only [outsM] at hz
  rcases List.mem_append.1 hz with hz|hz
  ·by_cases hs:skipB p q kn o i=true
   ·rw [if_pos hs] at hz
    simp at hz
   ·rw [if_neg hs] at hz
    unfold out1 at hz
    split at hz
    ·rename_i hr
     simp only [List.mem_cons,List.not_mem_nil,or_false] at hz;subst hz;exact ⟨⟨i,by omega,by simp,rfl,by simpa using hs⟩,outside_ok hr⟩
    ·simp at hz
  ·obtain ⟨⟨j,h1,h2,h3⟩,h4⟩:=ih (i+1) z hz
   exact ⟨⟨j,by omega,by simp;omega,h3⟩,h4⟩
theorem pass_fst (o:List Bool) (m:List MB) (t:List HB) (p x y v:Int) (ld:List Int):(passM o m t p x y v ld).1=o∧(passM o m t p x y v ld).2.1=m:=by
 unfold passM passIn
 (repeat' split) <;> exact ⟨rfl,rfl⟩
theorem pass_tab (o:List Bool) (m:List MB) (t:List HB) (p x y v:Int) (ld:List Int):(passM o m t p x y v ld).2.2.1.length≤t.length+1:=by
 unfold passM passIn
 (repeat' split)
 ·exact hear_length _ _ _ _
 ·dsimp only;omega
 ·dsimp only;omega
theorem pass_outs (o:List Bool) (m:List MB) (t:List HB) (p x y v:Int) (ld:List Int):(passM o m t p x y v ld).2.2.2.length≤m.length:=by
 unfold passM passIn
 (repeat' split)
 ·exact outsM_length _ _ _ _ _ _ _ _ _ _
 ·simp
 ·simp
theorem szBoolS_eq (l:List Bool) (n:Int) (h:l.length≤maxLen) (h0:0≤n) (h1:n≤1048576):Y69.f l n=some (if (l.length:Int)≤n then n - l.length else -1):=by
 unfold maxLen at h
 simp only [Y69.f];rw [w64 (by omega) (by omega)]
 by_cases hl:(l.length:Int)≤n
 ·rw [if_neg (by omega),if_pos hl]
 ·rw [if_pos (by omega),if_neg hl]
abbrev MA:=S79
def mcv (x:MA):MB:=⟨x.f0,x.f1⟩
theorem rdMA {l:List MA} {i:Nat} {x:MA} (h:l[i]?=some x):rd_T79 l (i:Int)=x:=getD_at h
theorem szIntS_eq (l:List Int) (n:Int) (h:l.length≤maxLen) (h0:0≤n) (h1:n≤1048576):Y73.f l n=some (if (l.length:Int)≤n then n - l.length else -1):=by
 unfold maxLen at h
 simp only [Y73.f];rw [w64 (by omega) (by omega)]
 by_cases hl:(l.length:Int)≤n
 ·rw [if_neg (by omega),if_pos hl]
 ·rw [if_pos (by omega),if_neg hl]
theorem szMember_eq (a:Int) (l:List Int) (n:Int) (h:l.length≤maxLen) (h0:0≤n) (h1:n≤1048576):Y81.f a l n=some (if (l.length:Int)≤n then n - l.length else -1):=by
 simp only [Y81.f,szIntS_eq l n h h0 h1,Option.bind_some]
 split
 ·split <;> simp_all
  omega
 ·simp
def inLen:List MA→Int
 | []=>0
 | x :: t=>(x.f1.length:Int)+inLen t
theorem inLen_nonneg:∀ l:List MA,0≤inLen l:=by
 intro l
 induction l with
 | nil=>simp [inLen]
 | cons x t ih=>simp only [inLen];omega
theorem inLen_le:∀ (l:List MA) (x:MA),x∈l→(x.f1.length:Int)≤inLen l:=by
 intro l
 induction l with
 | nil=>intro x h;simp at h
 | cons y t ih =>
  intro x h;have:=inLen_nonneg t;simp only [inLen]
  rcases List.mem_cons.1 h with rfl|h
  ·omega
  ·have:=ih x h
   omega
def szM:Int→List MA→Int
 | n,[]=>n
 | n,x :: t=>if (x.f1.length:Int)≤n then szM (n - x.f1.length) t else -1
theorem szM_eq:∀ (l:List MA) (n:Int),0≤n→szM n l=if inLen l≤n then n - inLen l else -1:=by
 intro l
 induction l with
 | nil=>intro n h;simp [szM,inLen,h]
 | cons x t ih =>
  intro n h;have:=inLen_nonneg t;have e:inLen (x :: t)=(x.f1.length:Int)+inLen t:=rfl;rw [e]
  simp only [szM]
  by_cases hx:(x.f1.length:Int)≤n
  ·rw [if_pos hx,ih _ (by omega)]
   by_cases h2:inLen t≤n - x.f1.length
   ·rw [if_pos h2,if_pos (by omega)]
    omega
   ·rw [if_neg h2,if_neg (by omega)]
  ·rw [if_neg hx,if_neg (by omega)]
theorem szMemberS_ev (l:List MA) (n:Int) (h:l.length≤maxLen) (hm:∀ x∈l,x.f1.length≤maxLen) (h0:0≤n) (h1:n≤1048576) :
  Ev (fun k=>Y27.f k l n) (if (l.length:Int)+inLen l≤n then n - l.length - inLen l else -1):=by
 have hn:=inLen_nonneg l;have h':=h;unfold maxLen at h'
 simp only [Y27.f];rw [w64 (by omega) (by omega)]
 by_cases hl:(l.length:Int)≤n
 ·simp only [if_neg (show ¬ n - (l.length:Int)<0 by omega)]
  have:=ev_list l (fun k (s:Int) i=>Y27.l0 k l s i) (fun s t=>szM s t) (fun _ s=>0≤s∧s≤1048576)
   (fun s _=>ev_end fun k=>by simp only [Y27.l0];rw [if_neg (by omega)];rfl)
   (fun i s x t hI hi _ hx ih=>by
    have hmx:=hm x (List.mem_of_getElem? hx);have hsz:=szMember_eq x.f0 x.f1 s hmx hI.1 hI.2;simp only [szM]
    by_cases hle:(x.f1.length:Int)≤s
    ·rw [if_pos hle] at hsz ⊢
     refine Ev.step (fun k=>?_) (ih (s - x.f1.length) ⟨by omega,by omega⟩)
     simp only [Y27.l0];rw [if_pos (by omega),if_pos (by omega),rdMA hx,hsz,w64_succ (by omega)]
     simp only [Option.bind_some];rw [if_neg (by omega)]
    ·rw [if_neg hle] at hsz ⊢
     refine ev_end fun k=>?_
     simp only [Y27.l0];rw [if_pos (by omega),if_pos (by omega),rdMA hx,hsz]
     simp)
   (n - l.length) ⟨by omega,by omega⟩
  rw [szM_eq l _ (by omega)] at this
  have e:(if inLen l≤n - (l.length:Int) then n - (l.length:Int) - inLen l else -1)=(if (l.length:Int)+inLen l≤n then n - l.length - inLen l else -1):=by
   by_cases hh:inLen l≤n - (l.length:Int)
   ·rw [if_pos hh,if_pos (by omega)]
   ·rw [if_neg hh,if_neg (by omega)]
  rw [e] at this
  exact this
 ·refine ev_some fun k=>?_
  rw [if_pos (by omega),if_neg (by omega)]
abbrev HA:=S90
def hcv (x:HA):HB:=⟨x.f0,x.f1,x.f2,x.f3⟩
theorem rdHA {l:List HA} {i:Nat} {x:HA} (h:l[i]?=some x):rd_T90 l (i:Int)=x:=getD_at h
theorem szHeardS_eq (l:List HA) (n:Int) (h:l.length≤maxLen) (h0:0≤n) (h1:n≤1048576):Y75.f l n=some (if (l.length:Int)≤n then n - l.length else -1):=by
 unfold maxLen at h
 simp only [Y75.f];rw [w64 (by omega) (by omega)]
 by_cases hl:(l.length:Int)≤n
 ·rw [if_neg (by omega),if_pos hl]
 ·rw [if_pos (by omega),if_neg hl]
def cardSize (o:List Bool) (m:List MA) (t:List HA):Int:=(o.length:Int)+((m.length:Int)+inLen m)+t.length
theorem szCard_ev (o:List Bool) (m:List MA) (t:List HA) (n:Int) (ho:o.length≤maxLen) (h:m.length≤maxLen) (hm:∀ x∈m,x.f1.length≤maxLen) (ht:t.length≤maxLen) (h0:0≤n) (h1:n≤1048576) :
  Ev (fun k=>Y60.f k o m t n) (if cardSize o m t≤n then n - cardSize o m t else -1):=by
 have hin:=inLen_nonneg m;have ec:cardSize o m t=(o.length:Int)+((m.length:Int)+inLen m)+t.length:=rfl;rw [ec]
 simp only [Y60.f,szBoolS_eq o n ho h0 h1,Option.bind_some]
 by_cases e1:(o.length:Int)≤n
 ·simp only [if_pos e1,if_neg (show ¬ n - (o.length:Int)<0 by omega)]
  have hs:=szMemberS_ev m (n - o.length) h hm (by omega) (by omega)
  by_cases e2:(m.length:Int)+inLen m≤n - o.length
  ·rw [if_pos e2] at hs
   refine Ev.bind hs ?_;simp only [if_neg (show ¬ n - (o.length:Int) - (m.length:Int) - inLen m<0 by omega)]
   rw [szHeardS_eq t _ ht (by omega) (by omega)]
   simp only [Option.bind_some]
   by_cases e3:(t.length:Int)≤n - (o.length:Int) - (m.length:Int) - inLen m
   ·simp only [if_pos e3]
    refine ev_some fun k=>?_
    rw [if_neg (by omega),if_pos (by omega)]
    congr 1
    omega
   ·simp only [if_neg e3]
    refine ev_some fun k=>?_
    rw [if_pos (by omega),if_neg (by omega)]
  ·rw [if_neg e2] at hs
   refine Ev.bind hs (ev_some fun k=>?_)
   rw [if_pos (by omega),if_neg (by omega)]
 ·simp only [if_neg e1]
  refine ev_some fun k=>?_
  rw [if_pos (by omega),if_neg (by omega)]
theorem szByteS_eq (l:List Int) (n:Int) (h:l.length≤maxLen) (h0:0≤n) (h1:n≤1048576):Y72.f l n=some (if (l.length:Int)≤n then n - l.length else -1):=by
 unfold maxLen at h
 simp only [Y72.f];rw [w64 (by omega) (by omega)]
 by_cases hl:(l.length:Int)≤n
 ·rw [if_neg (by omega),if_pos hl]
 ·rw [if_pos (by omega),if_neg hl]
theorem szFrame_eq (a b c:Int) (l:List Int) (n:Int) (h:l.length≤maxLen) (h0:0≤n) (h1:n≤1048576):Y78.f a b c l n=some (if (l.length:Int)≤n then n - l.length else -1):=by
 simp only [Y78.f,szByteS_eq l n h h0 h1,Option.bind_some]
 split
 ·split <;> simp_all
  omega
 ·simp
theorem rdBo {l:List Bool} {i:Nat} {x:Bool} (h:l[i]?=some x):rdOf false l (i:Int)=x:=getD_at h
theorem toBoolS_ev (l:List Bool) (h:l.length≤4194304):Ev (fun k=>Y32.f k l) l:=by
 have h0:=ev_copy l false (fun x=>x) (fun k acc i=>Y32.l0 k l acc i)
  (fun acc ha=>ev_end fun k=>by simp only [Y32.l0];rw [if_neg (by omega)])
  (fun i acc x r ha hi hx ih=>Ev.step (fun k=>by
   simp only [Y32.l0];rw [if_pos (by omega),if_pos (by omega),if_pos (by omega),rdBo hx,w64_succ (by omega)]
   simp) ih)
 rw [List.map_id'] at h0
 refine Ev.congr (fun k=>?_) h0
 simp only [Y32.f];rw [if_pos (by omega),if_pos (by simp;omega)]
 simp
theorem toIntS_ev (l:List Int) (h:l.length≤4194304):Ev (fun k=>Y33.f k l) l:=by
 have h0:=ev_copy l (0:Int) (fun x=>x) (fun k acc i=>Y33.l0 k l acc i)
  (fun acc ha=>ev_end fun k=>by simp only [Y33.l0];rw [if_neg (by omega)])
  (fun i acc x r ha hi hx ih=>Ev.step (fun k=>by
   simp only [Y33.l0];rw [if_pos (by omega),if_pos (by omega),if_pos (by omega),rd_at hx,w64_succ (by omega)]
   simp) ih)
 rw [List.map_id'] at h0
 refine Ev.congr (fun k=>?_) h0
 simp only [Y33.f];rw [if_pos (by omega),if_pos (by simp;omega)]
 simp
theorem toMember_ev (a:Int) (l:List Int) (h:l.length≤4194304):Ev (fun k=>Y56.f k a l) (a,l):=by
 simp only [Y56.f];exact Ev.bind (toIntS_ev l h) (ev_some fun _=>rfl)
theorem toMemberS_ev (l:List MA) (h:l.length≤4194304) (hm:∀ x∈l,x.f1.length≤4194304):Ev (fun k=>Y29.f k l) (l.map mcv):=by
 have h0:=ev_copy l z60 mcv (fun k acc i=>Y29.l0 k l acc i)
  (fun acc ha=>ev_end fun k=>by simp only [Y29.l0];rw [if_neg (by omega)])
  (fun i acc x r ha hi hx ih=>by
   refine Ev.step (f:=fun k=>(Y56.f k x.f0 x.f1).bind fun bt=>(if (i:Int)<(acc.length:Int) then (Y29.l0 k l (acc.set i (⟨bt.1,bt.2⟩:MB)) ((i+1:Nat):Int)) else (none))) (fun k=>?_) (Ev.bind (toMember_ev x.f0 x.f1 (hm x (List.mem_of_getElem? hx))) ?_)
   ·simp only [Y29.l0]
    rw [if_pos (by omega),if_pos (by omega),rdMA hx,w64_succ (by omega)]
    simp
   ·refine Ev.congr (fun k=>?_) ih
    rw [if_pos (by omega)]
    rfl)
 refine Ev.congr (fun k=>?_) h0
 simp only [Y29.f];rw [if_pos (by omega),if_pos (by simp;omega)]
 simp
theorem toHeardS_ev (l:List HA) (h:l.length≤4194304):Ev (fun k=>Y31.f k l) (l.map hcv):=by
 have h0:=ev_copy l z86 hcv (fun k acc i=>Y31.l0 k l acc i)
  (fun acc ha=>ev_end fun k=>by simp only [Y31.l0];rw [if_neg (by omega)])
  (fun i acc x r ha hi hx ih=>Ev.step (fun k=>by
   simp only [Y31.l0,Y83.f,Option.bind_some];rw [if_pos (by omega),if_pos (by omega),if_pos (by omega),rdHA hx,w64_succ (by omega)]
   simp [hcv]) ih)
 refine Ev.congr (fun k=>?_) h0
 simp only [Y31.f];rw [if_pos (by omega),if_pos (by simp;omega)]
 simp
theorem toCard_ev (o:List Bool) (m:List MA) (t:List HA) (ho:o.length≤4194304) (h:m.length≤4194304) (hm:∀ x∈m,x.f1.length≤4194304) (ht:t.length≤4194304):Ev (fun k=>Y63.f k o m t) (o,m.map mcv,t.map hcv):=by
 simp only [Y63.f];exact Ev.bind (toBoolS_ev o ho) (Ev.bind (toMemberS_ev m h hm) (Ev.bind (toHeardS_ev t ht) (ev_some fun _=>rfl)))
theorem toByteS_ev (l:List Int) (h:l.length≤4194304):Ev (fun k=>Y34.f k l) l:=by
 have h0:=ev_copy l (0:Int) (fun x=>x) (fun k acc i=>Y34.l0 k l acc i)
  (fun acc ha=>ev_end fun k=>by simp only [Y34.l0];rw [if_neg (by omega)])
  (fun i acc x r ha hi hx ih=>Ev.step (fun k=>by
   simp only [Y34.l0];rw [if_pos (by omega),if_pos (by omega),if_pos (by omega),rd_at hx,w64_succ (by omega)]
   simp) ih)
 rw [List.map_id'] at h0
 refine Ev.congr (fun k=>?_) h0
 simp only [Y34.f];rw [if_pos (by omega),if_pos (by simp;omega)]
 simp
theorem toFrame_ev (a b c:Int) (l:List Int) (h:l.length≤4194304):Ev (fun k=>Y66.f k a b c l) (a,b,c,l):=by
 simp only [Y66.f];exact Ev.bind (toByteS_ev l h) (ev_some fun _=>rfl)
theorem eqBoolS_ev (l:List Bool) (h:l.length≤4194304):Ev (fun k=>Y30.f k l l) true:=by
 have h0:=ev_list0 l (fun k i=>Y30.l0 k l l i) (fun _=>true)
  (ev_end fun k=>by simp only [Y30.l0];rw [if_neg (by omega)])
  (fun i x t hi _ hx ih=>Ev.step (fun k=>by
   simp only [Y30.l0,bne_self_eq_false,Bool.false_eq_true,if_false];rw [if_pos (by omega),if_pos (by omega),if_pos (by omega),w64_succ (by omega)]) ih)
 refine Ev.congr (fun k=>?_) h0
 simp [Y30.f]
theorem eqIntS_ev (l:List Int) (h:l.length≤4194304):Ev (fun k=>Y36.f k l l) true:=by
 have h0:=ev_list0 l (fun k i=>Y36.l0 k l l i) (fun _=>true)
  (ev_end fun k=>by simp only [Y36.l0];rw [if_neg (by omega)])
  (fun i x t hi _ hx ih=>Ev.step (fun k=>by
   simp only [Y36.l0];rw [if_pos (by omega),if_pos (by omega),if_pos (by omega),w64_succ (by omega)]
   try simp) ih)
 refine Ev.congr (fun k=>?_) h0
 simp [Y36.f]
theorem eqMember_ev (a:Int) (l:List Int) (h:l.length≤4194304):Ev (fun k=>Y53.f k a l a l) true:=by
 simp only [Y53.f,if_true];exact Ev.bind (eqIntS_ev l h) (ev_some fun _=>rfl)
theorem eqMemberS_ev (l:List MB) (h:l.length≤4194304) (hm:∀ x∈l,x.f1.length≤4194304):Ev (fun k=>Y13.f k l l) true:=by
 have h0:=ev_list0 l (fun k i=>Y13.l0 k l l i) (fun _=>true)
  (ev_end fun k=>by simp only [Y13.l0];rw [if_neg (by omega)])
  (fun i x t hi _ hx ih=>by
   refine Ev.step (f:=fun k=>(Y53.f k x.f0 x.f1 x.f0 x.f1).bind fun t217=>(if t217=true then (Y13.l0 k l l ((i+1:Nat):Int)) else (some false))) (fun k=>?_) (Ev.bind (eqMember_ev x.f0 x.f1 (hm x (List.mem_of_getElem? hx))) ?_)
   ·simp only [Y13.l0]
    rw [if_pos (by omega),if_pos (by omega),if_pos (by omega),rdMB hx,w64_succ (by omega)]
   ·refine Ev.congr (fun k=>?_) ih
    rw [if_pos rfl])
 refine Ev.congr (fun k=>?_) h0
 simp [Y13.f]
theorem eqHeardS_ev (l:List HB) (h:l.length≤4194304):Ev (fun k=>Y16.f k l l) true:=by
 have h0:=ev_list0 l (fun k i=>Y16.l0 k l l i) (fun _=>true)
  (ev_end fun k=>by simp only [Y16.l0];rw [if_neg (by omega)])
  (fun i x t hi _ hx ih=>Ev.step (fun k=>by
   simp only [Y16.l0,Y82.f];rw [if_pos (by omega),if_pos (by omega),if_pos (by omega),w64_succ (by omega)]
   simp) ih)
 refine Ev.congr (fun k=>?_) h0
 simp [Y16.f]
theorem eqCard_ev (o:List Bool) (m:List MB) (t:List HB) (ho:o.length≤4194304) (h:m.length≤4194304) (hm:∀ x∈m,x.f1.length≤4194304) (ht:t.length≤4194304):Ev (fun k=>Y59.f k o m t o m t) true:=by
 simp only [Y59.f];refine Ev.bind (eqBoolS_ev o ho) ?_;simp only [if_true];refine Ev.bind (eqMemberS_ev m h hm) ?_;simp only [if_true];refine Ev.bind (eqHeardS_ev t ht) (ev_some fun _=>rfl)
theorem eqByteS_ev (l:List Int) (h:l.length≤4194304):Ev (fun k=>Y39.f k l l) true:=by
 have h0:=ev_list0 l (fun k i=>Y39.l0 k l l i) (fun _=>true)
  (ev_end fun k=>by simp only [Y39.l0];rw [if_neg (by omega)])
  (fun i x t hi _ hx ih=>Ev.step (fun k=>by
   simp only [Y39.l0];rw [if_pos (by omega),if_pos (by omega),if_pos (by omega),w64_succ (by omega)]
   try simp) ih)
 refine Ev.congr (fun k=>?_) h0
 simp [Y39.f]
theorem eqFrame_ev (a b c:Int) (l:List Int) (h:l.length≤4194304):Ev (fun k=>Y52.f k a b c l a b c l) true:=by
 simp only [Y52.f,if_true];exact Ev.bind (eqByteS_ev l h) (ev_some fun _=>rfl)
theorem eqOut1_ev (a b c d:Int) (l:List Int) (h:l.length≤4194304):Ev (fun k=>Y54.f k a b c d l a b c d l) true:=by
 simp only [Y54.f,if_true];exact Ev.bind (eqFrame_ev b c d l h) (ev_some fun _=>rfl)
theorem eqOut1S_ev (l:List OB) (h:l.length≤4194304) (hm:∀ x∈l,x.f1.f3.length≤4194304):Ev (fun k=>Y17.f k l l) true:=by
 have h0:=ev_list0 l (fun k i=>Y17.l0 k l l i) (fun _=>true)
  (ev_end fun k=>by simp only [Y17.l0];rw [if_neg (by omega)])
  (fun i x t hi _ hx ih=>by
   refine Ev.step (f:=fun k=>(Y54.f k x.f0 x.f1.f0 x.f1.f1 x.f1.f2 x.f1.f3 x.f0 x.f1.f0 x.f1.f1 x.f1.f2 x.f1.f3).bind fun t217=>(if t217=true then (Y17.l0 k l l ((i+1:Nat):Int)) else (some false))) (fun k=>?_) (Ev.bind (eqOut1_ev x.f0 x.f1.f0 x.f1.f1 x.f1.f2 x.f1.f3 (hm x (List.mem_of_getElem? hx))) ?_)
   ·simp only [Y17.l0]
    rw [if_pos (by omega),if_pos (by omega),if_pos (by omega),rdOB hx,w64_succ (by omega)]
   ·refine Ev.congr (fun k=>?_) ih
    rw [if_pos rfl])
 refine Ev.congr (fun k=>?_) h0
 simp [Y17.f]
def bmk (_:Bool) (n:Int):Bool:=Int.tmod n 3 == 0
theorem markBoolS_ev (l:List Bool) (h:l.length≤4194304) (m:Int) (h0:0≤m) (h1:m≤1125899906842624):Ev (fun k=>Y46.f k l m) (m+costs (fun _=>1) l,upsG bmk (fun _=>1) m l) :=
 ev_mark l bmk (fun _=>1) (fun _ _=>by decide) (fun k acc n i=>Y46.l0 k acc n i)
  (fun acc n ha=>ev_end fun k=>by simp only [Y46.l0];rw [if_neg (by omega)])
  (fun i acc n x r ha hi _ hx hn hb ih=>Ev.step (fun k=>by
   simp only [Y46.l0,bmk];rw [if_pos (by omega),if_pos (by omega),w64_succ (by omega),w64 (by omega) (by omega)]
   simp) ih) m h0 (by rw [costs_const];omega)
theorem heldBoolS_ev (l:List Bool) (h:l.length≤4194304) (m:Int) (h0:0≤m) (h1:m≤1125899906842624):Ev (fun k=>Y35.f k (upsG bmk (fun _=>1) m l) m) (m+costs (fun _=>1) l) :=
 ev_held l bmk (fun _=>1) (fun _ _=>by decide) (fun k acc n i=>Y35.l0 k acc n i)
  (fun acc n ha=>ev_end fun k=>by simp only [Y35.l0];rw [if_neg (by omega)])
  (fun i acc n x r ha hi _ hx hn hb ih=>Ev.step (fun k=>by
   have e:rdOf false acc (i:Int)=(Int.tmod n 3 == 0):=getD_at hx;simp only [Y35.l0,e,bne_self_eq_false,Bool.false_eq_true,if_false];rw [if_pos (by omega),if_pos (by omega),w64_succ (by omega),w64 (by omega) (by omega)]) ih) m h0 (by rw [costs_const];omega)
def upsI (m:Int) (l:List Int):List Int:=upsG (fun _ n=>n) (fun _=>1) m l
theorem markIntX_ev (l:List Int) (m:Int) (h:l.length≤4194304) (h0:0≤m) (h1:m+l.length≤1152921504606846976):Ev (fun k=>Y37.f k l m) (m+l.length,upsI m l):=by
 have hh:=ev_mark l (fun _ n=>n) (fun _=>1) (fun _ _=>by decide) (fun k acc n i=>Y37.l0 k acc n i)
  (fun acc n ha=>ev_end fun k=>by simp only [Y37.l0];rw [if_neg (by omega)])
  (fun i acc n x r ha hi _ hx hn hb ih=>Ev.step (fun k=>by
   simp only [Y37.l0];rw [if_pos (by omega),if_pos (by omega),w64_succ (by omega),w64 (by omega) (by omega)]
   simp) ih) m h0 (by rw [costs_const];omega)
 rw [costs_const] at hh
 simpa [Y37.f,upsI] using hh
theorem heldIntX_ev (l:List Int) (m:Int) (h:l.length≤4194304) (h0:0≤m) (h1:m+l.length≤1152921504606846976):Ev (fun k=>Y40.f k (upsI m l) m) (m+l.length):=by
 have hh:=ev_held l (fun _ n=>n) (fun _=>1) (fun _ _=>by decide) (fun k acc n i=>Y40.l0 k acc n i)
  (fun acc n ha=>ev_end fun k=>by simp only [Y40.l0];rw [if_neg (by omega)])
  (fun i acc n x r ha hi _ hx hn hb ih=>Ev.step (fun k=>by
   simp only [Y40.l0];rw [if_pos (by omega),if_pos (by omega),rd_at hx,w64_succ (by omega),w64 (by omega) (by omega)]
   simp) ih) m h0 (by rw [costs_const];omega)
 rw [costs_const] at hh
 simpa [Y40.f,upsI] using hh
def mmk (x:MB) (n:Int):MB:=⟨n,upsI (n+1) x.f1⟩
def mco (x:MB):Int:=1+x.f1.length
theorem mco_nonneg (x:MB):0≤mco x:=by unfold mco;omega
theorem rdMB_set {l:List MB} {i:Nat} (h:i<l.length) (v:MB):rd_T60 (l.set i v) (i:Int)=v:=rdMB (by simp [h])
theorem markMemberS_ev (l:List MB) (h:l.length≤4194304) (hm:∀ x∈l,x.f1.length≤4194304) (m:Int) (h0:0≤m) (h1:m+costs mco l≤1125899906842624):Ev (fun k=>Y44.f k l m) (m+costs mco l,upsG mmk mco m l):=by
 refine ev_mark l mmk mco (fun x _=>mco_nonneg x) (fun k acc n i=>Y44.l0 k acc n i) (fun acc n ha=>?_) (fun i acc n x r ha hi hxl hx hn hb ih=>?_) m h0 (by omega)
 ·refine ev_end fun k=>?_
  simp only [Y44.l0];rw [if_neg (by omega)]
 ·have hxm:=hm x hxl
  have hb2:n+(1+(x.f1.length:Int))≤1152921504606846976:=hb;refine Ev.step (fun _=>rfl) ?_
  have hs:=fun v=>rdMB_set (l:=acc) (i:=i) (by omega) v
  simp only [Y44.l0,if_pos (show (i:Int)<(acc.length:Int) by omega),if_pos (show (0:Int)≤(i:Int) by omega),w64_succ (show (i:Int)<4611686018427387904 by omega),Option.bind_some,Int.toNat_natCast,hs,rdMB hx,List.set_set]
  rw [w64 (by omega) (by omega)]
  refine Ev.bind (markIntX_ev x.f1 (n+1) hxm (by omega) (by omega)) ?_
  have e:n+1+(x.f1.length:Int)=n+mco x:=by unfold mco;omega
  dsimp only;rw [e]
  exact ih
theorem heldMemberS_ev (l:List MB) (h:l.length≤4194304) (hm:∀ x∈l,x.f1.length≤4194304) (m:Int) (h0:0≤m) (h1:m+costs mco l≤1125899906842624):Ev (fun k=>Y38.f k (upsG mmk mco m l) m) (m+costs mco l):=by
 refine ev_held l mmk mco (fun x _=>mco_nonneg x) (fun k acc n i=>Y38.l0 k acc n i) (fun acc n ha=>?_) (fun i acc n x r ha hi hxl hx hn hb ih=>?_) m h0 (by omega)
 ·refine ev_end fun k=>?_
  simp only [Y38.l0];rw [if_neg (by omega)]
 ·have hxm:=hm x hxl
  have hb2:n+(1+(x.f1.length:Int))≤1152921504606846976:=hb;refine Ev.step (fun _=>rfl) ?_
  simp only [Y38.l0,if_pos (show (i:Int)<(acc.length:Int) by omega),if_pos (show (0:Int)≤(i:Int) by omega),w64_succ (show (i:Int)<4611686018427387904 by omega),rdMB hx,mmk,if_true]
  rw [w64 (by omega) (by omega)]
  refine Ev.bind (heldIntX_ev x.f1 (n+1) hxm (by omega) (by omega)) ?_
  have e:n+1+(x.f1.length:Int)=n+mco x:=by unfold mco;omega
  rw [e]
  simp only [if_neg (show ¬ n+mco x<0 by have:=mco_nonneg x;omega)]
  exact ih
theorem costs_inLen (l:List MA):costs mco (l.map mcv)=(l.length:Int)+inLen l:=by
 induction l with
 | nil=>simp [costs,inLen]
 | cons x t ih =>
  simp only [List.map_cons,costs,ih,inLen,mco,mcv,List.length_cons];omega
def hmk (_:HB) (n:Int):HB:=⟨n,n+1,n+1+1,n+1+1+1⟩
theorem rdHB_set {l:List HB} {i:Nat} (h:i<l.length) (v:HB):rd_T86 (l.set i v) (i:Int)=v:=rdHB (by simp [h])
theorem markHeardS_ev (l:List HB) (h:l.length≤4194304) (m:Int) (h0:0≤m) (h1:m≤1125899906842624):Ev (fun k=>Y45.f k l m) (m+costs (fun _=>4) l,upsG hmk (fun _=>4) m l):=by
 refine ev_mark l hmk (fun _=>4) (fun _ _=>by decide) (fun k acc n i=>Y45.l0 k acc n i) (fun acc n ha=>?_) (fun i acc n x r ha hi _ hx hn hb ih=>?_) m h0 (by rw [costs_const];omega)
 ·refine ev_end fun k=>?_
  simp only [Y45.l0];rw [if_neg (by omega)]
 ·refine Ev.step (fun k=>?_) ih
  have hs:=fun v=>rdHB_set (l:=acc) (i:=i) (by omega) v
  simp only [Y45.l0];rw [if_pos (by omega),if_pos (by omega),w64_succ (by omega)]
  simp (disch:=omega) only [Option.bind_some,Int.toNat_natCast,hs,List.set_set,w64,hmk]
  have e:n+4=n+1+1+1+1:=by omega
  rw [e]
theorem heldHeardS_ev (l:List HB) (h:l.length≤4194304) (m:Int) (h0:0≤m) (h1:m≤1125899906842624):Ev (fun k=>Y42.f k (upsG hmk (fun _=>4) m l) m) (m+costs (fun _=>4) l):=by
 refine ev_held l hmk (fun _=>4) (fun _ _=>by decide) (fun k acc n i=>Y42.l0 k acc n i) (fun acc n ha=>?_) (fun i acc n x r ha hi _ hx hn hb ih=>?_) m h0 (by rw [costs_const];omega)
 ·refine ev_end fun k=>?_
  simp only [Y42.l0];rw [if_neg (by omega)]
 ·refine Ev.step (fun k=>?_) ih
  simp only [Y42.l0];rw [if_pos (by omega),if_pos (by omega),w64_succ (by omega),rdHB hx]
  simp (disch:=omega) only [w64,hmk,if_true]
  have e:n+4=n+1+1+1+1:=by omega
  rw [e]
def cardCost (o:List Bool) (m:List MB) (t:List HB):Int:=costs (fun _=>1) o+(costs mco m+costs (fun _=>4) t)
theorem cardCost_nonneg (o:List Bool) (m:List MB) (t:List HB):0≤cardCost o m t:=by
 have h1:=costs_nonneg (fun _:Bool=>1) o (fun _ _=>by decide)
 have h2:=costs_nonneg mco m (fun x _=>mco_nonneg x)
 have h3:=costs_nonneg (fun _:HB=>4) t (fun _ _=>by decide)
 unfold cardCost
 omega
theorem markCard_ev (o:List Bool) (m:List MB) (t:List HB) (ho:o.length≤4194304) (h:m.length≤4194304) (hm:∀ x∈m,x.f1.length≤4194304) (ht:t.length≤4194304) (n:Int) (h0:0≤n) (h1:n+cardCost o m t≤1125899906842624) :
  Ev (fun k=>Y74.f k o m t n) (n+cardCost o m t,upsG bmk (fun _=>1) n o,upsG mmk mco (n+costs (fun _=>1) o) m,upsG hmk (fun _=>4) (n+costs (fun _=>1) o+costs mco m) t):=by
 have c1:=costs_nonneg (fun _:Bool=>1) o (fun _ _=>by decide)
 have c2:=costs_nonneg mco m (fun x _=>mco_nonneg x)
 have c3:=costs_nonneg (fun _:HB=>4) t (fun _ _=>by decide)
 unfold cardCost at h1 ⊢
 simp only [Y74.f];refine Ev.bind (markBoolS_ev o ho n h0 (by omega)) ?_
 refine Ev.bind (markMemberS_ev m h hm _ (by omega) (by omega)) ?_
 refine Ev.bind (markHeardS_ev t ht _ (by omega) (by omega)) ?_
 refine ev_some fun _=>?_
 simp only [Option.some.injEq,Prod.mk.injEq,and_true];omega
theorem heldCard_ev (o:List Bool) (m:List MB) (t:List HB) (ho:o.length≤4194304) (h:m.length≤4194304) (hm:∀ x∈m,x.f1.length≤4194304) (ht:t.length≤4194304) (n:Int) (h0:0≤n) (h1:n+cardCost o m t≤1125899906842624) :
  Ev (fun k=>Y65.f k (upsG bmk (fun _=>1) n o) (upsG mmk mco (n+costs (fun _=>1) o) m) (upsG hmk (fun _=>4) (n+costs (fun _=>1) o+costs mco m) t) n) (n+cardCost o m t):=by
 have c1:=costs_nonneg (fun _:Bool=>1) o (fun _ _=>by decide)
 have c2:=costs_nonneg mco m (fun x _=>mco_nonneg x)
 have c3:=costs_nonneg (fun _:HB=>4) t (fun _ _=>by decide)
 unfold cardCost at h1 ⊢
 simp only [Y65.f];refine Ev.bind (heldBoolS_ev o ho n h0 (by omega)) ?_
 simp only [if_neg (show ¬ n+costs (fun _=>1) o<0 by omega)]
 refine Ev.bind (heldMemberS_ev m h hm _ (by omega) (by omega)) ?_
 simp only [if_neg (show ¬ n+costs (fun _=>1) o+costs mco m<0 by omega)]
 refine Ev.bind (heldHeardS_ev t ht _ (by omega) (by omega)) ?_
 simp only [if_neg (show ¬ n+costs (fun _=>1) o+costs mco m+costs (fun _=>4) t<0 by omega)]
 refine ev_some fun _=>?_
 simp only [Option.some.injEq];omega
def ups (m:Int):List Int→List Int
 | []=>[]
 | _ :: t=>(m % 256) :: ups (m+1) t
theorem ups_length:∀ (l:List Int) (m:Int),(ups m l).length=l.length:=by
 intro l
 induction l with
 | nil=>intro m;rfl
 | cons x t ih=>intro m;simp [ups,ih]
def setUps (acc:List Int) (i:Nat) (m:Int):List Int→List Int
 | []=>acc
 | _ :: t=>setUps (acc.set i (m % 256)) (i+1) (m+1) t
theorem setUps_eq:∀ (t acc:List Int) (i:Nat) (m:Int),i+t.length=acc.length→setUps acc i m t=acc.take i++ups m t:=by
 intro t
 induction t with
 | nil=>intro acc i m h;simp at h;simp [setUps,ups,h]
 | cons x t ih =>
  intro acc i m h;simp at h
  rw [setUps,ih _ _ _ (by simp;omega)]
  have e:(acc.set i (m % 256)).take (i+1)=acc.take i++[m % 256]:=by
   rw [List.take_succ_eq_append_getElem (by simp;omega)]
   simp [List.take_set_of_le]
  rw [e]
  simp [ups]
theorem markByteS_ev (l:List Int) (m:Int) (h:l.length≤4194304) (h0:0≤m) (h1:m≤1152921504606846976):Ev (fun k=>Y18.f k l m) (m+l.length,ups m l):=by
 have hh:=ev_list l (fun k (s:Nat × Int × List Int) i=>Y18.l0 k s.2.2 s.2.1 i) (fun s t=>(s.2.1+t.length,setUps s.2.2 s.1 s.2.1 t)) (fun i s=>s.1=i∧s.2.1=m+i∧s.2.2.length=l.length)
  (fun s hI=>by
   obtain ⟨j,n,acc⟩:=s;obtain ⟨h2,h3,h4⟩:=hI;dsimp only at h2 h3 h4 ⊢;refine ev_end fun k=>?_
   simp only [Y18.l0];rw [if_neg (by omega)]
   simp [setUps])
  (fun i s x t hI hi _ hx ih=>by
   obtain ⟨j,n,acc⟩:=s;obtain ⟨h2,h3,h4⟩:=hI;dsimp only at h2 h3 h4 ih ⊢;subst h2;have:=ih (j+1,n+1,acc.set j (n % 256)) ⟨rfl,by dsimp only;omega,by simp [h4]⟩
   have e:(n+((x :: t).length:Nat),setUps acc j n (x :: t))=(n+1+(t.length:Nat),setUps (acc.set j (n % 256)) (j+1) (n+1) t):=by
    simp only [setUps,List.length_cons]
    congr 1
    omega
   rw [e]
   refine Ev.step (fun k=>?_) this
   simp only [Y18.l0];rw [if_pos (by omega),if_pos (by omega),w64_succ (by omega),w64 (by omega) (by omega)]
   simp)
  (0,m,l) ⟨rfl,by simp,rfl⟩
 dsimp only at hh;rw [setUps_eq _ _ _ _ (by simp)] at hh
 simpa [Y18.f] using hh
theorem heldByteS_ev (l:List Int) (m:Int) (h:l.length≤4194304) (h0:0≤m) (h1:m≤1152921504606846976):Ev (fun k=>Y41.f k (ups m l) m) (m+l.length):=by
 have key:∀ (d i:Nat) (n:Int) (acc:List Int),i+d=acc.length→acc.length=l.length→n=m+i→(∃ t:List Int,acc.drop i=ups n t∧t.length=d)→Ev (fun k=>Y41.l0 k acc n (i:Int)) (n+d):=by
  intro d
  induction d with
  | zero =>
   intro i n acc hi ha hn _;refine ev_end fun k=>?_
   simp only [Y41.l0];rw [if_neg (by omega)]
   simp
  | succ d ih =>
   intro i n acc hi ha hn ht;obtain ⟨t,ht,htl⟩:=ht;obtain ⟨x,t,rfl⟩:∃ x t',t=x :: t':=by
    cases t with
    | nil=>simp at htl
    | cons x t=>exact ⟨x,t,rfl⟩
   simp at htl
   have hlt:i<acc.length:=by omega
   rw [List.drop_eq_getElem_cons hlt,ups] at ht
   injection ht with e1 e2
   have:=ih (i+1) (n+1) acc (by omega) ha (by omega) ⟨t,e2,htl⟩
   have e:n+((d+1:Nat):Int)=n+1+(d:Int):=by omega
   rw [e]
   refine Ev.step (fun k=>?_) this
   simp only [Y41.l0];rw [if_pos (by omega),if_pos (by omega),rd_at (List.getElem?_eq_getElem hlt),if_pos e1,w64_succ (by omega),w64 (by omega) (by omega)]
 have:=key l.length 0 m (ups m l) (by simp [ups_length]) (ups_length _ _) (by simp) ⟨l,by simp,rfl⟩
 simpa [Y41.f] using this
theorem markFrame_ev (a b c:Int) (l:List Int) (m:Int) (h:l.length≤4194304) (h0:0≤m) (h1:m≤1125899906842624):Ev (fun k=>Y64.f k a b c l m) (m+l.length,ups m l):=by
 simp only [Y64.f];exact Ev.bind (markByteS_ev l m h h0 (by omega)) (ev_some fun _=>rfl)
def pmk (x:OB) (n:Int):OB:=⟨n,⟨n+1,n+1+1,n+1+1+1,ups (n+1+1+1+1) x.f1.f3⟩⟩
def pco (x:OB):Int:=4+x.f1.f3.length
theorem pco_nonneg (x:OB):0≤pco x:=by unfold pco;omega
theorem rdOB_set {l:List OB} {i:Nat} (h:i<l.length) (v:OB):rd_T65 (l.set i v) (i:Int)=v:=rdOB (by simp [h])
theorem markOut1S_ev (l:List OB) (h:l.length≤4194304) (hm:∀ x∈l,x.f1.f3.length≤4194304) (m:Int) (h0:0≤m) (h1:m+costs pco l≤1125899906842624):Ev (fun k=>Y28.f k l m) (m+costs pco l,upsG pmk pco m l):=by
 refine ev_mark l pmk pco (fun x _=>pco_nonneg x) (fun k acc n i=>Y28.l0 k acc n i) (fun acc n ha=>?_) (fun i acc n x r ha hi hxl hx hn hb ih=>?_) m h0 (by omega)
 ·refine ev_end fun k=>?_
  simp only [Y28.l0];rw [if_neg (by omega)]
 ·have hxm:=hm x hxl
  have hb2:n+(4+(x.f1.f3.length:Int))≤1152921504606846976:=hb;refine Ev.step (fun _=>rfl) ?_
  have hs:=fun v=>rdOB_set (l:=acc) (i:=i) (by omega) v
  simp only [Y28.l0,if_pos (show (i:Int)<(acc.length:Int) by omega),if_pos (show (0:Int)≤(i:Int) by omega),w64_succ (show (i:Int)<4611686018427387904 by omega),Option.bind_some,Int.toNat_natCast,hs,rdOB hx,List.set_set]
  rw [w64 (x:=n+1) (by omega) (by omega),w64 (x:=n+1+1) (by omega) (by omega),w64 (x:=n+1+1+1) (by omega) (by omega),w64 (x:=n+1+1+1+1) (by omega) (by omega)]
  refine Ev.bind (markByteS_ev x.f1.f3 (n+1+1+1+1) hxm (by omega) (by omega)) ?_
  have e:n+1+1+1+1+(x.f1.f3.length:Int)=n+pco x:=by unfold pco;omega
  dsimp only;rw [e]
  exact ih
theorem heldOut1S_ev (l:List OB) (h:l.length≤4194304) (hm:∀ x∈l,x.f1.f3.length≤4194304) (m:Int) (h0:0≤m) (h1:m+costs pco l≤1125899906842624):Ev (fun k=>Y47.f k (upsG pmk pco m l) m) (m+costs pco l):=by
 refine ev_held l pmk pco (fun x _=>pco_nonneg x) (fun k acc n i=>Y47.l0 k acc n i) (fun acc n ha=>?_) (fun i acc n x r ha hi hxl hx hn hb ih=>?_) m h0 (by omega)
 ·refine ev_end fun k=>?_
  simp only [Y47.l0];rw [if_neg (by omega)]
 ·have hxm:=hm x hxl
  have hb2:n+(4+(x.f1.f3.length:Int))≤1152921504606846976:=hb;refine Ev.step (fun _=>rfl) ?_
  simp only [Y47.l0,if_pos (show (i:Int)<(acc.length:Int) by omega),if_pos (show (0:Int)≤(i:Int) by omega),w64_succ (show (i:Int)<4611686018427387904 by omega),rdOB hx,pmk,if_true]
  rw [w64 (x:=n+1) (by omega) (by omega),w64 (x:=n+1+1) (by omega) (by omega),w64 (x:=n+1+1+1) (by omega) (by omega),w64 (x:=n+1+1+1+1) (by omega) (by omega)]
  simp only [if_true];refine Ev.bind (heldByteS_ev x.f1.f3 (n+1+1+1+1) hxm (by omega) (by omega)) ?_
  have e:n+1+1+1+1+(x.f1.f3.length:Int)=n+pco x:=by unfold pco;omega
  rw [e]
  simp only [if_neg (show ¬ n+pco x<0 by have:=pco_nonneg x;omega)]
  exact ih
theorem pcosts_le (l:List OB) (hm:∀ x∈l,x.f1.f3.length≤30):costs pco l≤34*(l.length:Int):=by
 induction l with
 | nil=>simp [costs]
 | cons x t ih =>
  have h1:=hm x (by simp)
  have h2:=ih (fun y hy=>hm y (by simp [hy]))
  simp only [costs,pco,List.length_cons];omega
theorem pass_load (o:List Bool) (m:List MB) (t:List HB) (p x y v:Int) (ld:List Int):∀ z∈(passM o m t p x y v ld).2.2.2,z.f1.f3.length≤30:=by
 unfold passM passIn
 (repeat' split)
 ·intro z hz
  exact ((frameOk_iff' _ _ _ _).1 (outsM_mem _ _ _ _ _ _ _ _ _ _ z hz).2).2.2.2.2.2.2
 ·intro z hz
  simp at hz
 ·intro z hz
  simp at hz
theorem FnExactPass:FnExactPassPure:=by
 intro o m t p x y v ld ho hm ht hp hx hy hv hld;have hmm:∀ x∈m,x.f1.length≤maxLen:=fun x hx=>(hm.2 x hx).2.1
 have hsz:=szCard_ev o m t 1048576 ho.1 hm.1 hmm ht.1 (by omega) (by omega)
 refine Ev.rounds ?_;simp only [Y49.f];refine Ev.bind hsz ?_
 by_cases hbig:¬ (cardSize o m t≤1048576)
 ·exact ev_some fun _=>by simp [hbig]
 have hbig:cardSize o m t≤1048576:=by omega
 simp only [if_pos hbig,if_neg (show ¬ (1048576:Int) - cardSize o m t<0 by omega)]
 have hcn:0≤cardSize o m t:=by have:=inLen_nonneg m;unfold cardSize;omega
 rw [szFrame_eq x y v ld _ hld.1 (by omega) (by omega)]
 simp only [Option.bind_some]
 by_cases hbf:¬ ((ld.length:Int)≤1048576 - cardSize o m t)
 ·exact ev_some fun _=>by simp [hbf]
 have hbf:(ld.length:Int)≤1048576 - cardSize o m t:=by omega
 simp only [if_pos hbf,if_neg (show ¬ (1048576:Int) - cardSize o m t - ld.length<0 by omega)]
 have hin:=inLen_nonneg m;have hbb:=hbig;unfold cardSize at hbb
 have hm4:∀ x∈m,x.f1.length≤4194304:=fun x hx=>by have:=inLen_le m x hx;omega
 have hm4':∀ x∈m.map mcv,x.f1.length≤4194304:=by
  intro x hx;obtain ⟨y,hy,rfl⟩:=List.mem_map.1 hx;exact hm4 y hy
 have l0:ld.length≤4194304:=by omega
 have l1:o.length≤4194304:=by omega
 have l2:m.length≤4194304:=by omega
 have l3:t.length≤4194304:=by omega
 have l2':(m.map mcv).length≤4194304:=by simp;omega
 have l3':(t.map hcv).length≤2097152:=by simp;omega
 have hcm:=costs_inLen m;have hco:costs (fun _=>1) o=1*(o.length:Int):=costs_const 1 o
 have hct:costs (fun _=>4) (t.map hcv)=4*((t.map hcv).length:Int):=costs_const 4 _
 have hlt:((t.map hcv).length:Int)=t.length:=by simp
 refine Ev.bind (toCard_ev o m t l1 l2 hm4 l3) ?_;dsimp only;refine Ev.bind (toFrame_ev x y v ld l0) ?_;dsimp only;generalize m.map mcv=M at hm4' l2' hcm ⊢
 generalize t.map hcv=T at l3' hct hlt ⊢
 refine Ev.bind (specPass_ev o M T p x y v ld l1 l2' hm4' l3' l0) ?_;refine Ev.bind (implPass_ev o M T p x y v ld l1 l2' hm4' l3' l0) ?_;obtain ⟨g1,g2⟩:=pass_fst o M T p x y v ld;have g3:=pass_tab o M T p x y v ld;have g4:=pass_outs o M T p x y v ld;have g5:=pass_load o M T p x y v ld;generalize passM o M T p x y v ld=G at g1 g2 g3 g4 g5 ⊢
 obtain ⟨go,gm,gt,gx⟩:=G;dsimp only at g1 g2 g3 g4 g5 ⊢;subst g1;subst g2;have g6:∀ z∈gx,z.f1.f3.length≤4194304:=fun z hz=>by have:=g5 z hz;omega
 have g7:=pcosts_le gx g5;have l4:gx.length≤4194304:=by omega
 have l5:gt.length≤4194304:=by omega
 have l6:T.length≤4194304:=by omega
 refine Ev.bind (eqCard_ev go gm gt l1 l2' hm4' l5) ?_;refine Ev.bind (eqOut1S_ev gx l4 g6) ?_;refine Ev.bind (eqCard_ev go gm T l1 l2' hm4' l6) ?_;refine Ev.bind (eqFrame_ev x y v ld l0) ?_;simp only [Bool.and_self,if_true];have k1:=cardCost_nonneg go gm T;have k2:=cardCost_nonneg go gm gt;have k3:=costs_nonneg pco gx (fun z _=>pco_nonneg z)
 have hco2:costs (fun _=>1) go=1*(go.length:Int):=costs_const 1 go
 have hct2:costs (fun _=>4) gt=4*(gt.length:Int):=costs_const 4 _
 have b1:cardCost go gm T≤8388608:=by unfold cardCost;omega
 have b2:cardCost go gm gt≤20971520:=by unfold cardCost;omega
 refine Ev.bind (markCard_ev go gm T l1 l2' hm4' l6 1 (by omega) (by omega)) ?_
 refine Ev.bind (markFrame_ev x y v ld (1+cardCost go gm T) l0 (by omega) (by omega)) ?_
 simp only [if_neg (show ¬ 1+cardCost go gm T+(ld.length:Int)<0 by omega)]
 refine Ev.bind (markCard_ev go gm gt l1 l2' hm4' l5 1 (by omega) (by omega)) ?_
 refine Ev.bind (markOut1S_ev gx l4 g6 (1+cardCost go gm gt) (by omega) (by omega)) ?_
 refine Ev.bind (heldCard_ev go gm gt l1 l2' hm4' l5 1 (by omega) (by omega)) ?_
 simp only [if_neg (show ¬ 1+cardCost go gm gt<0 by omega)]
 refine Ev.bind (heldOut1S_ev gx l4 g6 (1+cardCost go gm gt) (by omega) (by omega)) ?_
 simp only [if_neg (show ¬ 1+cardCost go gm gt+costs pco gx<0 by omega),if_true]
 exact ev_some fun _=>rfl
end Go.Proofs.Ytfljolhhgheheaa.Pure
