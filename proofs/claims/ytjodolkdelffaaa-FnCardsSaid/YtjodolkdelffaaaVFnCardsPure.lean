/- A part of the proof of laws.FnCards. No condition beyond what its theorems say. -/
/- The statement of laws.FnCards over numbers and lists alone: at every input it answers true. No condition but that the numbers are those of their kinds and that no slice is longer than a Go slice can be. -/
import Derived.Test.YtjodolkdelffaaaVFnCardsT
import Derived.Test.YtjodolkdelffaaaVFnCardsBase
import Derived.Laws.BitsLemmas
set_option linter.unusedVariables false
set_option linter.unusedSimpArgs false
namespace Go.Proofs.Ytjodolkdelffaaa.Pure
open Go.RowKit Go.Proofs.Ytjodolkdelffaaa.PFnCards Go.Proofs.Ytjodolkdelffaaa.Base Go.Proofs.YtjodolkdelffaaaW.PrintWords Go.Proofs.YtjodolkdelffaaaW.PrintLast Go.Proofs.YtjodolkdelffaaaW.PrintMore
def FnCardsPure:Prop:=∀ (l0:List (Int)),(l0.length≤maxLen∧∀ x∈l0,(Lit.int .u8 x).wf=true)→∃ k,Z63.f k l0=some true
theorem Ev.succ {α:Type} {g:Nat→Option α} {r:α} (h:Ev (fun k=>g (k+1)) r):Ev g r:=Ev.step (fun _=>rfl) h
theorem and_range (x:Int) (m:Nat) (hm:m<2 ^ 62):0≤Go.bits .and .i64 x (m:Int)∧Go.bits .and .i64 x (m:Int)≤m:=by
 have e:Go.bits .and .i64 x (m:Int)=IntKind.i64.wrap (((BitVec.ofInt 64 x) &&& (BitVec.ofInt 64 (m:Int))).toNat:Int):=rfl;have h1:((BitVec.ofInt 64 x) &&& (BitVec.ofInt 64 (m:Int))).toNat≤m:=by
  rw [BitVec.toNat_and,BitVec.ofInt_natCast,BitVec.toNat_ofNat,Nat.mod_eq_of_lt (by omega)]
  exact Nat.and_le_right
 rw [e,IntKind.wrap_i64]
 omega
theorem and_255_range (x:Int):0≤Go.bits .and .i64 x 255∧Go.bits .and .i64 x 255≤255:=and_range x 255 (by decide)
def CurOk (b:List Int) (i:Int):Prop:=0≤i∧i≤b.length∧b.length≤4194304
def EvP {α:Type} (g:Nat→Option α) (P:α→Prop):Prop:=∃ r,Ev g r∧P r
theorem EvP.bind {α β:Type} {c:Nat→Option α} {f:Nat→α→Option β} {Q:α→Prop} {P:β→Prop} (h:EvP c Q) (hf:∀ a,Q a→EvP (fun k=>f k a) P):EvP (fun k=>(c k).bind (f k)) P:=by
 obtain ⟨a,ha,hq⟩:=h;obtain ⟨r,hr,hp⟩:=hf a hq;exact ⟨r,Ev.bind ha hr,hp⟩
theorem EvP.now {α:Type} {P:α→Prop} (r:α) (h:P r):EvP (fun _=>some r) P:=⟨r,Ev.now r,h⟩
theorem EvP.of {α:Type} {g:Nat→Option α} {P:α→Prop} {r:α} (h:Ev g r) (hp:P r):EvP g P:=⟨r,h,hp⟩
theorem EvP.imp {α:Type} {g:Nat→Option α} {P Q:α→Prop} (h:EvP g P) (hi:∀ r,P r→Q r):EvP g Q:=by
 obtain ⟨r,hr,hp⟩:=h;exact ⟨r,hr,hi r hp⟩
theorem EvP.succ {α:Type} {g:Nat→Option α} {P:α→Prop} (h:EvP (fun k=>g (k+1)) P):EvP g P:=by
 obtain ⟨r,hr,hp⟩:=h;exact ⟨r,Ev.succ hr,hp⟩
theorem l1New_ev (l:List Int) (h:l.length≤4194304):∃ q:Int,Ev (fun k=>Z35.f k l) (l,0,q):=by
 have key:∀ (d i:Nat) (q:Int),i+d=l.length→∃ q':Int,Ev (fun k=>Z35.l0 k l q (i:Int)) (l,0,q'):=by
  intro d
  induction d with
  | zero =>
   intro i q hi;refine ⟨q,ev_end fun k=>?_⟩
   simp only [Z35.l0];rw [if_neg (by omega)]
  | succ d ih =>
   intro i q hi
   by_cases h4:(i:Int)<4000
   ·obtain ⟨q',hq⟩:=ih (i+1) (Go.bits .and .i64 (wrap64 ((wrap64 ((wrap64 (q*131))+(wrap64 (rd l (i:Int)))))+7)) 1073741823) (by omega)
    refine ⟨q',Ev.step (fun k=>?_) hq⟩
    simp only [Z35.l0];rw [if_pos (by omega),if_pos h4,if_pos (by omega),w64_succ (by omega)]
   ·refine ⟨q,ev_end fun k=>?_⟩
    simp only [Z35.l0];rw [if_pos (by omega),if_neg h4]
 exact key l.length 0 _ (by omega)
theorem l1Byte_some (b:List Int) (i q:Int) (h:CurOk b i):∃ r i' q',Z42.f b i q=some (r,i',q')∧CurOk b i'∧0≤r∧r≤255:=by
 obtain ⟨h0,h1,h2⟩:=h;simp only [Z42.f]
 by_cases hi:i<(b.length:Int)
 ·rw [if_pos hi,if_pos h0]
  refine ⟨_,_,_,rfl,⟨?_,?_,h2⟩,(and_255_range _).1,(and_255_range _).2⟩ <;> rw [w64 (by omega) (by omega)] <;> omega
 ·rw [if_neg hi]
  exact ⟨_,_,_,rfl,⟨h0,h1,h2⟩,(and_255_range _).1,(and_255_range _).2⟩
theorem l1Below_some (b:List Int) (i q n:Int) (h:CurOk b i):∃ r i' q',Z3.f b i q n=some (r,i',q')∧CurOk b i'∧0≤r∧(0<n→r<n):=by
 simp only [Z3.f]
 by_cases h0:n≤0
 ·rw [if_pos h0]
  exact ⟨_,_,_,rfl,h,by omega,by omega⟩
 ·rw [if_neg h0]
  obtain ⟨r1,i1,q1,e1,c1,a1,b1⟩:=l1Byte_some b i q h
  by_cases h2:n≤256
  ·rw [if_pos h2,e1]
   simp only [Option.bind_some];rw [if_neg (by omega),Int.tmod_eq_emod_of_nonneg a1]
   exact ⟨_,_,_,rfl,c1,Int.emod_nonneg _ (by omega),fun _=>Int.emod_lt_of_pos _ (by omega)⟩
  ·obtain ⟨r2,i2,q2,e2,c2,a2,b2⟩:=l1Byte_some b i1 q1 c1
   obtain ⟨r3,i3,q3,e3,c3,a3,b3⟩:=l1Byte_some b i2 q2 c2;obtain ⟨r4,i4,q4,e4,c4,a4,b4⟩:=l1Byte_some b i3 q3 c3;rw [if_neg h2,e1]
   simp only [Option.bind_some,e2,e3,e4];rw [if_neg (by omega),w64 (x:=r1*16777216) (by omega) (by omega),w64 (x:=r2*65536) (by omega) (by omega),w64 (x:=r3*256) (by omega) (by omega),w64 (x:=r1*16777216+r2*65536) (by omega) (by omega),w64 (x:=r1*16777216+r2*65536+r3*256) (by omega) (by omega),w64 (by omega) (by omega),Int.tmod_eq_emod_of_nonneg (by omega)]
   exact ⟨_,_,_,rfl,c4,Int.emod_nonneg _ (by omega),fun _=>Int.emod_lt_of_pos _ (by omega)⟩
theorem l1Below_evp (b:List Int) (i q n:Int) (h:CurOk b i):EvP (fun _=>Z3.f b i q n) (fun r=>CurOk b r.2.1∧0≤r.1∧(0<n→r.1<n)):=by
 obtain ⟨r,i',q',e,c,h0,h1⟩:=l1Below_some b i q n h;exact ⟨(r,i',q'),ev_some fun _=>e,c,h0,h1⟩
theorem l1PickInt_some (b:List Int) (i q:Int) (l:List Int) (h:CurOk b i) (hl:0<l.length):∃ r i' q',Z38.f b i q l=some (r,i',q')∧CurOk b i'∧r∈l:=by
 obtain ⟨r,i',q',e,c,h0,h1⟩:=l1Below_some b i q l.length h;have h1:=h1 (by omega)
 obtain ⟨n,rfl⟩:=Int.eq_ofNat_of_zero_le h0;refine ⟨l[n]'(by omega),i',q',?_,c,List.getElem_mem _⟩
 simp only [Z38.f,e,Option.bind_some];rw [if_pos h0,if_pos h1,rd_at (List.getElem?_eq_getElem (by omega))]
theorem l1PickInt_evp (b:List Int) (i q:Int) (l:List Int) (h:CurOk b i) (hl:0<l.length):EvP (fun _=>Z38.f b i q l) (fun r=>CurOk b r.2.1∧r.1∈l):=by
 obtain ⟨r,i',q',e,c,hm⟩:=l1PickInt_some b i q l h hl;exact ⟨(r,i',q'),ev_some fun _=>e,c,hm⟩
theorem l1Once_some (b:List Int) (i q n:Int) (h:CurOk b i):∃ r i' q',Z45.f b i q n=some (r,i',q')∧CurOk b i':=by
 obtain ⟨r,i',q',e,c,_⟩:=l1Below_some b i q n h;exact ⟨r == 0,i',q',by simp [Z45.f,e],c⟩
theorem l1Once_evp (b:List Int) (i q n:Int) (h:CurOk b i):EvP (fun _=>Z45.f b i q n) (fun r=>CurOk b r.2.1):=by
 obtain ⟨r,i',q',e,c⟩:=l1Once_some b i q n h;exact ⟨(r,i',q'),ev_some fun _=>e,c⟩
theorem l4DrawRight_evp (b:List Int) (i q:Int) (h:CurOk b i):EvP (fun k=>Z24.f k b i q) (fun r=>CurOk b r.2.2.1∧r.2.1.length≤4):=by
 have key:∀ (d n:Nat) (own:Int) (l:List Int) (i q:Int),n+d=5→1≤n→CurOk b i→l.length+1≤n→EvP (fun k=>Z24.l0 k (n:Int) b i q own l) (fun r=>CurOk b r.2.2.1∧r.2.1.length≤4):=by
  intro d
  induction d with
  | zero =>
   intro n own l i q hn h1 hc hl;refine EvP.succ ?_;simp only [Z24.l0];simp only [if_neg (show ¬ (n:Int)≤4 by omega)]
   exact EvP.now _ ⟨hc,by dsimp only;omega⟩
  | succ d ih =>
   intro n own l i q hn h1 hc hl;refine EvP.succ ?_;simp only [Z24.l0];simp only [if_pos (show (n:Int)≤4 by omega),w64_succ (show (n:Int)<4611686018427387904 by omega),if_pos (show l.length<17592186044416 by omega)]
   by_cases e:(n:Int)=own
   ·simp only [if_pos e]
    exact ih (n+1) own (l++[(n:Int)]) i q (by omega) (by omega) hc (by simp;omega)
   ·simp only [if_neg e]
    refine EvP.bind (l1Once_evp b _ _ 2 hc) (fun r hr=>?_)
    by_cases e1:r.1=true
    ·simp only [if_pos e1]
     exact ih (n+1) own (l++[(n:Int)]) _ _ (by omega) (by omega) hr (by simp;omega)
    ·simp only [if_neg e1]
     exact ih (n+1) own l _ _ (by omega) (by omega) hr (by omega)
 simp only [Z24.f];refine EvP.bind (l1Below_evp b i q 3 h) (fun r hr=>?_)
 exact key 4 1 _ [] _ _ (by omega) (by omega) hr.1 (by simp)
theorem l4Draw_evp (b:List Int) (i q:Int) (h:CurOk b i):EvP (fun k=>Z41.f k b i q) (fun r=>CurOk b r.2.2.1∧r.2.1.length≤5):=by
 simp only [Z41.f];refine EvP.bind (l4DrawRight_evp b i q h) (fun r hr=>?_)
 refine EvP.bind (l1Below_evp b _ _ 8 hr.1) (fun r1 h1=>?_)
 have hl:=hr.2
 by_cases e0:r1.1=0
 ·simp only [if_pos e0]
  refine EvP.bind (l1Below_evp b _ _ 6 h1.1) (fun r2 h2=>?_)
  exact EvP.now _ ⟨h2.1,by dsimp only;omega⟩
 ·simp only [if_neg e0]
  by_cases e1:r1.1=1
  ·simp only [if_pos e1]
   refine EvP.bind (l1Below_evp b _ _ 6 h1.1) (fun r2 h2=>?_)
   simp only [if_pos (show r.2.1.length<17592186044416 by omega)]
   exact EvP.now _ ⟨h2.1,by simp;omega⟩
  ·simp only [if_neg e1]
   exact EvP.now _ ⟨h1.1,by dsimp only;omega⟩
abbrev HB:=S72
theorem rdHB {l:List HB} {i:Nat} {x:HB} (h:l[i]?=some x):rd_T72 l (i:Int)=x:=getD_at h
def hOk (x:HB):Bool:=decide (1≤x.f0∧x.f0≤9) && (decide (1≤x.f1∧x.f1≤4) && (decide (0≤x.f2∧x.f2≤3) && decide (1≤x.f3∧x.f3≤20)))
def hBefore (a b:HB):Bool:=decide (a.f1<b.f1∨a.f1=b.f1∧a.f0<b.f0)
def hNext (p:Option HB) (x:HB):Bool:=match p with|none=>true|some y=>hBefore y x
def tabM (n:Nat):Option HB→List HB→Bool
 | _,[]=>decide (n≤12)
 | p,x :: t=>hOk x && (hNext p x && tabM n (some x) t)
def tableOk (l:List HB):Bool:=tabM l.length none l
theorem hOk_iff (x:HB):hOk x=true↔(1≤x.f0∧x.f0≤9)∧(1≤x.f1∧x.f1≤4)∧(0≤x.f2∧x.f2≤3)∧(1≤x.f3∧x.f3≤20):=by simp [hOk]
def hearM (a v:Int) (x:HB):Bool→List HB→List HB
 | put,[]=>if put then [] else [x]
 | put,y :: t=>if (!put && !hBefore y x)=true then (x :: ((if y.f0=a∧y.f1=v then [] else [y])++hearM a v x true t)) else ((if y.f0=a∧y.f1=v then [] else [y])++hearM a v x put t)
def hearX (a v p:Int):HB:=⟨a,v,p,20⟩
def hearNew (l:List HB) (a v p:Int):List HB:=hearM a v (hearX a v p) false l
def hear (l:List HB) (a v p:Int):List HB:=if tableOk (hearNew l a v p) then hearNew l a v p else l
theorem drop1_length (P:Prop) [Decidable P] (y:HB):(if P then [] else [y]).length≤1:=by split <;> simp
theorem hearM_length (a v:Int) (x:HB):∀ (l:List HB),(hearM a v x true l).length≤l.length∧(hearM a v x false l).length≤l.length+1:=by
 intro l
 induction l with
 | nil=>simp [hearM]
 | cons y t ih =>
  obtain ⟨h1,h2⟩:=ih;have h3:=drop1_length (y.f0=a∧y.f1=v) y
  constructor
  ·simp only [hearM,Bool.not_true,Bool.false_and,Bool.false_eq_true,if_false,List.length_append,List.length_cons]
   omega
  ·simp only [hearM]
   split
   ·simp only [List.length_append,List.length_cons]
    omega
   ·simp only [List.length_append,List.length_cons]
    omega
theorem hear_length (l:List HB) (a v p:Int):(hear l a v p).length≤l.length+1:=by
 unfold hear
 split
 ·exact (hearM_length a v _ l).2
 ·omega
theorem hearM_mem (a v:Int) (x:HB):∀ (l:List HB) (put:Bool) (y:HB),y∈hearM a v x put l→y=x∨y∈l:=by
 intro l
 induction l with
 | nil=>intro put y hy;cases put <;> simp [hearM] at hy;exact Or.inl hy
 | cons z t ih =>
  intro put y hy;have d:∀ P:Prop,[Decidable P]→y∈(if P then [] else [z])→y=z:=by
   intro P _ h
   split at h <;> simp at h
   exact h
  simp only [hearM] at hy
  split at hy
  ·rcases List.mem_cons.1 hy with h|h
   ·exact Or.inl h
   ·rcases List.mem_append.1 h with h|h
    ·exact Or.inr (by rw [d _ h];simp)
    ·rcases ih true y h with h|h
     ·exact Or.inl h
     ·exact Or.inr (by simp [h])
  ·rcases List.mem_append.1 hy with h|h
   ·exact Or.inr (by rw [d _ h];simp)
   ·rcases ih put y h with h|h
    ·exact Or.inl h
    ·exact Or.inr (by simp [h])
theorem hear_mem (l:List HB) (a v p:Int) (y:HB) (h:y∈hear l a v p):y=hearX a v p∨y∈l:=by
 unfold hear at h
 split at h
 ·exact hearM_mem a v _ l false y h
 ·exact Or.inr h
theorem l3Before_eq (a b:HB):Z54.f a.f0 a.f1 a.f2 a.f3 b.f0 b.f1 b.f2 b.f3=some (hBefore a b):=by
 simp only [Z54.f,hBefore]
 by_cases h1:a.f1<b.f1
 ·simp [h1]
 ·by_cases h2:a.f1=b.f1 <;> simp [h1,h2]
theorem l1In_eq (x lo hi:Int):Z5.f x lo hi=some (decide (lo≤x∧x≤hi)):=by
 simp only [Z5.f]
 by_cases h:lo≤x
 ·rw [if_pos h];simp [h]
 ·rw [if_neg h];simp [h]
theorem specTableOk_ev (l:List HB) (h:l.length≤4194304):Ev (fun k=>Z9.f k l) (tableOk l):=by
 refine ev_list l (fun k (_:Option HB) i=>Z9.l0 k l i) (fun p t=>tabM l.length p t) (fun i p=>p=if i=0 then none else l[i - 1]?) ?_ ?_ none rfl
 ·intro p _
  refine ev_end fun k=>?_
  simp only [Z9.l0];rw [if_neg (by omega)]
  simp [tabM]
  omega
 ·intro i p x t hI hi _ hx ih
  have ih':=ih (some x) (by simp [hx])
  have hbefore:∀ k,(if (i:Int) > 0 then (if 0≤(wrap64 ((i:Int) - 1)) then (if (wrap64 ((i:Int) - 1))<(l.length:Int) then ((Z54.f ((rd_T72 l (wrap64 ((i:Int) - 1))).f0) ((rd_T72 l (wrap64 ((i:Int) - 1))).f1) ((rd_T72 l (wrap64 ((i:Int) - 1))).f2) ((rd_T72 l (wrap64 ((i:Int) - 1))).f3) x.f0 x.f1 x.f2 x.f3).bind fun t110=>(if t110=true then (Z9.l0 k l ((i+1:Nat):Int)) else (some false))) else (none)) else (none)) else (Z9.l0 k l ((i+1:Nat):Int)))=if hNext p x=true then Z9.l0 k l ((i+1:Nat):Int) else some false:=by
   intro k;cases i with
   | zero=>simp at hI;subst hI;simp [hNext]
   | succ j =>
    simp at hI
    have hj:l[j]?=some l[j]:=List.getElem?_eq_getElem (by omega)
    rw [hj] at hI
    subst hI;rw [if_pos (by omega),w64 (by omega) (by omega),show ((j+1:Nat):Int) - 1=(j:Int) by omega,if_pos (by omega),if_pos (by omega),rdHB hj,l3Before_eq]
    (simp [hNext]) <;> rfl
  cases hok:hOk x with
  | true =>
   have a:=(hOk_iff x).1 hok;cases hb:hNext p x with
   | true =>
    have e:tabM l.length p (x :: t)=tabM l.length (some x) t:=by simp [tabM,hok,hb]
    rw [e]
    refine Ev.step (fun k=>?_) ih'
    simp only [Z9.l0];rw [if_pos (by omega),if_pos (by omega),rdHB hx,w64_succ (by omega)]
    simp only [l1In_eq,Option.bind_some,a.1,a.2.1,a.2.2.1,a.2.2.2,and_self,decide_true,if_true];rw [hbefore k,if_pos hb]
   | false =>
    have e:tabM l.length p (x :: t)=false:=by simp [tabM,hb]
    rw [e]
    refine ev_end fun k=>?_
    simp only [Z9.l0];rw [if_pos (by omega),if_pos (by omega),rdHB hx,w64_succ (by omega)]
    simp only [l1In_eq,Option.bind_some,a.1,a.2.1,a.2.2.1,a.2.2.2,and_self,decide_true,if_true];rw [hbefore k,if_neg (by simp [hb])]
  | false =>
   have e:tabM l.length p (x :: t)=false:=by simp [tabM,hok]
   rw [e]
   refine ev_end fun k=>?_
   simp only [Z9.l0];rw [if_pos (by omega),if_pos (by omega),rdHB hx]
   simp only [hOk] at hok
   by_cases a1:1≤x.f0∧x.f0≤9 <;> by_cases a2:1≤x.f1∧x.f1≤4 <;> by_cases a3:0≤x.f2∧x.f2≤3 <;> by_cases a4:1≤x.f3∧x.f3≤20 <;> simp only [l1In_eq,Option.bind_some,a1,a2,a3,a4,and_self,decide_true,decide_false,if_true,if_false,Bool.false_eq_true,Bool.and_true,Bool.and_false,Bool.true_and,Bool.false_and,Bool.true_eq_false] at hok ⊢
theorem specHear_ev (l:List HB) (a v p:Int) (h:l.length≤2097152):Ev (fun k=>Z4.f k l a v p) (hear l a v p):=by
 have fin:∀ out:List HB,out.length≤4194304→Ev (fun k=>(Z9.f k out).bind fun t198=>(if t198=true then (some out) else ((some (([]:List HB):List HB)).bind fun y199=>(if y199.length+l.length<4398046511104 then (some (y199++l)) else (none))))) (if tableOk out then out else l):=by
  intro out ho;refine Ev.bind (specTableOk_ev out ho) (ev_some fun k=>?_)
  cases tableOk out with
  | true=>simp
  | false =>
   simp only [Bool.false_eq_true,if_false,Option.bind_some,List.length_nil,Nat.zero_add,List.nil_append];rw [if_pos (by omega)]
 have:=ev_list l (fun k (s:List HB × Bool) i=>Z4.l0 k l a v s.1 s.2 i a v p 20) (fun s t=>if tableOk (s.1++hearM a v (hearX a v p) s.2 t) then s.1++hearM a v (hearX a v p) s.2 t else l) (fun i s=>s.1.length≤i+(if s.2 then 1 else 0))
  (fun s hI=>by
   obtain ⟨acc,put⟩:=s;dsimp only at hI ⊢;cases put with
   | true =>
    have e:acc++hearM a v (hearX a v p) true []=acc:=by simp [hearM]
    rw [e]
    refine Ev.step (fun k=>?_) (fin acc (by simp at hI;omega))
    simp only [Z4.l0];rw [if_neg (by omega)]
    simp only [if_true]
   | false =>
    refine Ev.step (fun k=>?_) (fin (acc++hearM a v (hearX a v p) false []) (by simp [hearM] at hI ⊢;omega))
    simp only [Z4.l0];rw [if_neg (by omega)]
    simp only [Bool.false_eq_true,if_false];simp only [Bool.false_eq_true,if_false] at hI;rw [if_pos (by omega)]
    simp only [Option.bind_some,hearM,Bool.false_eq_true,if_false,hearX])
  (fun i s y t hI hi _ hy ih=>by
   obtain ⟨acc,put⟩:=s;dsimp only at hI ih ⊢;have hacc:acc.length≤2097153:=by
    cases put <;> simp at hI <;> omega
   -- the flag of the second part
   have s1:∀ k,Z4.l0 (k+1) l a v acc put (i:Int) a v p 20=Z4.j1 k l a v acc put (i:Int) (!put && !hBefore y (hearX a v p)) a v p 20:=by
    intro k;simp only [Z4.l0];rw [if_pos (by omega)]
    cases put with
    | true=>simp
    | false =>
     simp only [Bool.false_eq_true,if_false,rdHB hy];rw [if_pos (by omega)]
     have:=l3Before_eq y (hearX a v p);simp only [hearX] at this ⊢;rw [this]
     simp
   refine Ev.step s1 ?_
   by_cases hput:(!put && !hBefore y (hearX a v p))=true
   ·have hpf:put=false:=by cases put <;> simp at hput ⊢
    subst hpf;rw [hput]
    simp only [Bool.false_eq_true,if_false] at hI
    by_cases he:y.f0=a∧y.f1=v
    ·have e:acc++hearM a v (hearX a v p) false (y :: t)=(acc++[hearX a v p])++hearM a v (hearX a v p) true t:=by
      simp only [hearM];rw [if_pos hput,if_pos he]
      simp
     have:=ih (acc++[hearX a v p],true) (by simp;omega)
     rw [e]
     refine Ev.step (fun k=>?_) this
     simp only [Z4.j1,if_true];rw [if_pos (by omega)]
     simp only [Option.bind_some];rw [if_pos (by omega),if_pos (by omega),rdHB hy,if_pos he.1,if_pos he.2,w64_succ (by omega)]
     rfl
    ·have e:acc++hearM a v (hearX a v p) false (y :: t)=((acc++[hearX a v p])++[y])++hearM a v (hearX a v p) true t:=by
      simp only [hearM];rw [if_pos hput,if_neg he]
      simp
     have:=ih ((acc++[hearX a v p])++[y],true) (by simp;omega)
     rw [e]
     refine Ev.step (fun k=>?_) this
     simp only [Z4.j1,if_true];rw [if_pos (by omega)]
     simp only [Option.bind_some];rw [if_pos (by omega),if_pos (by omega),rdHB hy,w64_succ (by omega)]
     by_cases h1:y.f0=a
     ·have h2:¬ y.f1=v:=fun h=>he ⟨h1,h⟩
      rw [if_pos h1,if_neg h2,if_pos (by simp;omega)]
      rfl
     ·rw [if_neg h1,if_pos (by simp;omega)]
      rfl
   ·rw [Bool.eq_false_iff.mpr hput]
    by_cases he:y.f0=a∧y.f1=v
    ·have e:acc++hearM a v (hearX a v p) put (y :: t)=acc++hearM a v (hearX a v p) put t:=by
      simp only [hearM];rw [if_neg hput,if_pos he]
      simp
     have:=ih (acc,put) (by cases put <;> simp at hI ⊢ <;> omega)
     rw [e]
     refine Ev.step (fun k=>?_) this
     simp only [Z4.j1,Bool.false_eq_true,if_false];rw [if_pos (by omega),if_pos (by omega),rdHB hy,if_pos he.1,if_pos he.2,w64_succ (by omega)]
    ·have e:acc++hearM a v (hearX a v p) put (y :: t)=(acc++[y])++hearM a v (hearX a v p) put t:=by
      simp only [hearM];rw [if_neg hput,if_neg he]
      simp
     have:=ih (acc++[y],put) (by cases put <;> simp at hI ⊢ <;> omega)
     rw [e]
     refine Ev.step (fun k=>?_) this
     simp only [Z4.j1,Bool.false_eq_true,if_false];rw [if_pos (by omega),if_pos (by omega),rdHB hy,w64_succ (by omega)]
     by_cases h1:y.f0=a
     ·have h2:¬ y.f1=v:=fun h=>he ⟨h1,h⟩
      rw [if_pos h1,if_neg h2,if_pos (by omega)]
     ·rw [if_neg h1,if_pos (by omega)])
  ([],false) (by simp)
 simp only [List.nil_append] at this;exact this
def ageM:List HB→List HB
 | []=>[]
 | x :: t=>if x.f3 > 1 then ⟨x.f0,x.f1,x.f2,x.f3 - 1⟩ :: ageM t else ageM t
theorem ageM_length:∀ l:List HB,(ageM l).length≤l.length:=by
 intro l
 induction l with
 | nil=>simp [ageM]
 | cons x t ih =>
  simp only [ageM]
  split <;> simp <;> omega
theorem specAge_ev (l:List HB) (h:l.length≤4194304) (hw:∀ x∈l,x.f3≤9223372036854775807):Ev (fun k=>Z32.f k l) (ageM l):=by
 have:=ev_list l (fun k (acc:List HB) i=>Z32.l0 k l acc i) (fun acc t=>acc++ageM t) (fun i acc=>acc.length≤i)
  (fun acc hI=>ev_end fun k=>by simp only [Z32.l0];rw [if_neg (by omega)];simp [ageM])
  (fun i acc x t hI hi _ hx ih=>by
   have hwx:=hw x (List.mem_of_getElem? hx)
   by_cases hp:x.f3 > 1
   ·have e:acc++ageM (x :: t)=(acc++[⟨x.f0,x.f1,x.f2,x.f3 - 1⟩])++ageM t:=by simp [ageM,hp]
    rw [e]
    refine Ev.step (fun k=>?_) (ih (acc++[⟨x.f0,x.f1,x.f2,x.f3 - 1⟩]) (by simp;omega))
    simp only [Z32.l0];rw [if_pos (by omega),if_pos (by omega),rdHB hx,if_pos hp,if_pos (by omega),w64_succ (by omega),w64 (by omega) (by omega)]
   ·have e:acc++ageM (x :: t)=acc++ageM t:=by simp [ageM,hp]
    rw [e]
    refine Ev.step (fun k=>?_) (ih acc (by omega))
    simp only [Z32.l0];rw [if_pos (by omega),if_pos (by omega),rdHB hx,if_neg hp,w64_succ (by omega)])
  [] (by simp)
 simpa [Z32.f] using this
def Drawn3 (n:Nat) (l:List HB):Prop:=l.length≤n∧∀ x∈l,x.f3≤21
theorem drawn3_hear {n:Nat} {l:List HB} (h:Drawn3 n l) (a v p:Int):Drawn3 (n+1) (hear l a v p):=by
 refine ⟨Nat.le_trans (hear_length l a v p) (by have:=h.1;omega),fun x hx=>?_⟩
 rcases hear_mem l a v p x hx with rfl|hx
 ·simp [hearX]
 ·exact h.2 x hx
theorem ageM_mem:∀ (l:List HB) (x:HB),x∈ageM l→∃ y∈l,y.f3 > 1∧x.f3=y.f3 - 1:=by
 intro l
 induction l with
 | nil=>intro x h;simp [ageM] at h
 | cons z t ih =>
  intro x h;simp only [ageM] at h
  split at h
  ·rcases List.mem_cons.1 h with rfl|h
   ·exact ⟨z,by simp,by assumption,rfl⟩
   ·obtain ⟨y,hy,h⟩:=ih x h
    exact ⟨y,by simp [hy],h⟩
  ·obtain ⟨y,hy,h⟩:=ih x h
   exact ⟨y,by simp [hy],h⟩
theorem drawn3_age {n:Nat} {l:List HB} (h:Drawn3 n l):Drawn3 n (ageM l):=by
 refine ⟨Nat.le_trans (ageM_length l) h.1,fun x hx=>?_⟩
 obtain ⟨y,hy,_,e⟩:=ageM_mem l x hx;have:=h.2 y hy;omega
theorem l3DrawRight_evp (b:List Int) (i q:Int) (h:CurOk b i):EvP (fun k=>Z26.f k b i q) (fun r=>CurOk b r.2.1∧Drawn3 9 r.1):=by
 have key:∀ (d n:Nat) (l:List HB) (i q:Int),n+d=9→CurOk b i→Drawn3 n l→EvP (fun k=>Z26.l0 k l (n:Int) b i q) (fun r=>CurOk b r.2.1∧Drawn3 9 r.1):=by
  intro d
  induction d with
  | zero =>
   intro n l i q hn hc hl;refine EvP.succ ?_;simp only [Z26.l0];refine EvP.bind (l1Below_evp b i q 9 hc) (fun r hr=>?_)
   have:=hr.2.2 (by omega)
   simp only [if_neg (show ¬ (n:Int)<r.1 by omega)]
   exact EvP.now _ ⟨hr.1,by have h_:n=9:=(by omega);subst h_;exact hl⟩
  | succ d ih =>
   intro n l i q hn hc hl;refine EvP.succ ?_;simp only [Z26.l0];refine EvP.bind (l1Below_evp b i q 9 hc) (fun r hr=>?_)
   by_cases hlt:(n:Int)<r.1
   ·simp only [if_pos hlt]
    refine EvP.bind (l1Below_evp b _ _ 4 hr.1) (fun r1 h1=>?_)
    refine EvP.bind (l1Below_evp b _ _ 3 h1.1) (fun r2 h2=>?_)
    refine EvP.bind (l1Below_evp b _ _ 4 h2.1) (fun r3 h3=>?_)
    refine EvP.bind (EvP.of (specHear_ev l _ _ _ (by have:=hl.1;omega)) (drawn3_hear hl _ _ _)) (fun t ht=>?_)
    refine EvP.bind (l1Once_evp b _ _ 4 h3.1) (fun r4 h4=>?_)
    rw [w64_succ (by omega)]
    by_cases ho:r4.1=true
    ·simp only [if_pos ho]
     refine EvP.bind (EvP.of (specAge_ev t (by have:=ht.1;omega) (fun x hx=>by have:=ht.2 x hx;omega)) (drawn3_age ht)) (fun t2 ht2=>?_)
     exact ih (n+1) t2 _ _ (by omega) h4 ht2
    ·simp only [if_neg ho]
     exact ih (n+1) t _ _ (by omega) h4 ht
   ·simp only [if_neg hlt]
    exact EvP.now _ ⟨hr.1,Nat.le_trans hl.1 (by omega),hl.2⟩
 exact key 9 0 [] i q rfl h ⟨by simp,by simp⟩
theorem l3Draw_evp (b:List Int) (i q:Int) (h:CurOk b i):EvP (fun k=>Z36.f k b i q) (fun r=>CurOk b r.2.1∧Drawn3 18 r.1):=by
 have key:∀ (d n m:Nat) (l:List HB) (i q:Int),n+d=10→m+d=18→CurOk b i→Drawn3 m l→EvP (fun k=>Z36.l0 k l (n:Int) b i q) (fun r=>CurOk b r.2.1∧Drawn3 18 r.1):=by
  intro d
  induction d with
  | zero =>
   intro n m l i q hn hm hc hl;refine EvP.succ ?_;simp only [Z36.l0];simp only [if_neg (show ¬ (n:Int)≤9 by omega)]
   exact EvP.now _ ⟨hc,by have h_:m=18:=(by omega);subst h_;exact hl⟩
  | succ d ih =>
   intro n m l i q hn hm hc hl;refine EvP.succ ?_;simp only [Z36.l0];simp only [if_pos (show (n:Int)≤9 by omega)]
   refine EvP.bind (EvP.of (specHear_ev l _ _ _ (by have:=hl.1;omega)) (drawn3_hear hl _ _ _)) (fun t ht=>?_)
   rw [w64_succ (by omega)]
   exact ih (n+1) (m+1) t _ _ (by omega) (by omega) hc ht
 simp only [Z36.f];refine EvP.bind (l3DrawRight_evp b i q h) (fun r hr=>?_)
 refine EvP.bind (l1Below_evp b _ _ 8 hr.1) (fun r1 h1=>?_)
 by_cases e0:r1.1=0
 ·simp only [if_pos e0]
  refine EvP.bind (l1Below_evp b _ _ 11 h1.1) (fun r2 h2=>?_)
  refine EvP.bind (l1Below_evp b _ _ 6 h2.1) (fun r3 h3=>?_)
  refine EvP.bind (l1Below_evp b _ _ 6 h3.1) (fun r4 h4=>?_)
  refine EvP.bind (l1PickInt_evp b _ _ [0,1,20,21] h4.1 (by simp)) (fun r5 h5=>?_)
  simp only [if_pos (show r.1.length<4398046511104 by have:=hr.2.1;omega)]
  refine EvP.now _ ⟨h5.1,?_,fun x hx=>?_⟩
  ·have:=hr.2.1
   simp
   omega
  ·rcases List.mem_append.1 hx with hx|hx
   ·exact hr.2.2 x hx
   ·simp at hx
    subst hx;have:=h5.2;simp at this
    dsimp only;omega
 ·simp only [if_neg e0]
  by_cases e1:r1.1=1
  ·simp only [if_pos e1]
   exact key 9 1 9 r.1 _ _ rfl rfl h1.1 hr.2
  ·simp only [if_neg e1]
   exact EvP.now _ ⟨h1.1,Nat.le_trans hr.2.1 (by omega),hr.2.2⟩
def nextI (p:Option Int) (x:Int):Bool:=match p with|none=>true|some y=>decide (y<x)
def memM (own:Int) (l:List Int):Option Int→List Int→Bool
 | _,[]=>decide (1≤own∧own≤4) && l.contains own
 | p,x :: t=>decide (1≤x∧x≤4) && (nextI p x && memM own l (some x) t)
def memberOk (own:Int) (l:List Int):Bool:=memM own l none l
abbrev MB:=S42
theorem rdMB {l:List MB} {i:Nat} {x:MB} (h:l[i]?=some x):rd_T42 l (i:Int)=x:=getD_at h
def membersOk:List MB→Bool
 | []=>true
 | x :: t=>memberOk x.f0 x.f1 && membersOk t
theorem l5DrawRight_evp (b:List Int) (i q:Int) (h:CurOk b i):EvP (fun k=>Z14.f k b i q) (fun r=>CurOk b r.2.2.2.1∧r.1.length≤4∧1≤r.2.1.length∧r.2.1.length≤4∧(∀ x∈r.2.1,x.f1.length≤4)∧Drawn3 9 r.2.2.1):=by
 have key:∀ (X:Nat),1≤X→X≤4→∀ (d n:Nat) (o:List Bool) (m:List MB) (i q:Int),n+d=X→CurOk b i→o.length=n→m.length=n→(∀ x∈m,x.f1.length≤4)→EvP (fun k=>Z14.l0 k (X:Int) (n:Int) b i q o m) (fun r=>CurOk b r.2.2.2.1∧r.1.length≤4∧1≤r.2.1.length∧r.2.1.length≤4∧(∀ x∈r.2.1,x.f1.length≤4)∧Drawn3 9 r.2.2.1):=by
  intro X hX1 hX4 d
  induction d with
  | zero =>
   intro n o m i q hn hc ho hm hmm;refine EvP.succ ?_;simp only [Z14.l0];simp only [if_neg (show ¬ (n:Int)<(X:Int) by omega)]
   refine EvP.bind (l3DrawRight_evp b i q hc) (fun r hr=>?_)
   exact EvP.now _ ⟨hr.1,by dsimp only;omega,by dsimp only;omega,by dsimp only;omega,hmm,hr.2⟩
  | succ d ih =>
   intro n o m i q hn hc ho hm hmm;refine EvP.succ ?_;simp only [Z14.l0];simp only [if_pos (show (n:Int)<(X:Int) by omega)]
   refine EvP.bind (l1Once_evp b i q 4 hc) (fun r hr=>?_)
   simp only [if_pos (show o.length<140737488355328 by omega)]
   refine EvP.bind (l4DrawRight_evp b _ _ hr) (fun r1 h1=>?_)
   simp only [if_pos (show m.length<4398046511104 by omega),w64_succ (show (n:Int)<4611686018427387904 by omega)]
   refine ih (n+1) _ _ _ _ (by omega) h1.1 (by simp;omega) (by simp;omega) (fun x hx=>?_)
   rcases List.mem_append.1 hx with hx|hx
   ·exact hmm x hx
   ·simp only [List.mem_cons,List.not_mem_nil,or_false] at hx
    subst hx;exact h1.2
 simp only [Z14.f];refine EvP.bind (l1Below_evp b i q 4 h) (fun r hr=>?_)
 have a0:=hr.2.1;have a1:=hr.2.2 (by omega)
 rw [w64 (by omega) (by omega)]
 obtain ⟨X,hX⟩:∃ X:Nat,1+r.1=(X:Int):=⟨(1+r.1).toNat,by omega⟩
 rw [hX]
 exact key X (by omega) (by omega) X 0 [] [] _ _ (by omega) hr.1 rfl rfl (by simp)
theorem l5Draw_evp (b:List Int) (i q:Int) (h:CurOk b i):EvP (fun k=>Z49.f k b i q) (fun r=>CurOk b r.2.2.2.1∧r.1.length≤5∧r.2.1.length≤4∧(∀ x∈r.2.1,x.f1.length≤5)∧Drawn3 18 r.2.2.1):=by
 simp only [Z49.f];refine EvP.bind (l5DrawRight_evp b i q h) (fun r hr=>?_)
 obtain ⟨hc,ho,hm1,hm,hmm,ht⟩:=hr;have hmm':∀ x∈r.2.1,x.f1.length≤5:=fun x hx=>by have:=hmm x hx;omega
 have ht':Drawn3 18 r.2.2.1:=⟨by have:=ht.1;omega,ht.2⟩
 refine EvP.bind (l1Below_evp b _ _ 8 hc) (fun r1 h1=>?_)
 by_cases e0:r1.1=0
 ·simp only [if_pos e0,if_pos (show r.1.length<140737488355328 by omega)]
  exact EvP.now _ ⟨h1.1,by simp;omega,by dsimp only;omega,hmm',ht'⟩
 simp only [if_neg e0]
 by_cases e1:r1.1=1
 ·simp only [if_pos e1]
  refine EvP.bind (l4Draw_evp b _ _ h1.1) (fun r2 h2=>?_)
  simp only [if_pos (show 0<(r.2.1.length:Int) by omega)]
  refine EvP.now _ ⟨h2.1,by dsimp only;omega,by simp;omega,fun x hx=>?_,ht'⟩
  rcases List.mem_or_eq_of_mem_set hx with hx|rfl
  ·exact hmm' x hx
  ·exact h2.2
 simp only [if_neg e1]
 by_cases e2:r1.1=2
 ·simp only [if_pos e2]
  refine EvP.bind (l3Draw_evp b _ _ h1.1) (fun r2 h2=>?_)
  exact EvP.now _ ⟨h2.1,by dsimp only;omega,by dsimp only;omega,hmm',h2.2⟩
 ·simp only [if_neg e2]
  exact EvP.now _ ⟨h1.1,by dsimp only;omega,by dsimp only;omega,hmm',ht'⟩
def LoadOk (n:Nat) (l:List Int):Prop:=l.length≤n∧∀ x∈l,0≤x∧x<256
theorem l2DrawRight_evp (b:List Int) (i q:Int) (h:CurOk b i):EvP (fun k=>Z20.f k b i q) (fun r=>CurOk b r.2.2.2.2.1∧LoadOk 4 r.2.2.2.1∧(0≤r.1∧r.1≤4)∧(1≤r.2.1∧r.2.1≤4)∧(0≤r.2.2.1∧r.2.2.1≤2)):=by
 have key:∀ (d n:Nat) (x y v:Int) (l:List Int) (i q:Int),n+d=4→CurOk b i→LoadOk n l→EvP (fun k=>Z20.l0 k (n:Int) b i q x y v l) (fun r=>CurOk b r.2.2.2.2.1∧LoadOk 4 r.2.2.2.1∧r.1=x∧r.2.1=y∧r.2.2.1=v):=by
  intro d
  induction d with
  | zero =>
   intro n x y v l i q hn hc hl;refine EvP.succ ?_;simp only [Z20.l0];refine EvP.bind (l1Below_evp b i q 4 hc) (fun r hr=>?_)
   have:=hr.2.2 (by omega)
   simp only [if_neg (show ¬ (n:Int)<r.1 by omega)]
   have e:n=4:=by omega
   subst e;exact EvP.now _ ⟨hr.1,hl,rfl,rfl,rfl⟩
  | succ d ih =>
   intro n x y v l i q hn hc hl;refine EvP.succ ?_;simp only [Z20.l0];refine EvP.bind (l1Below_evp b i q 4 hc) (fun r hr=>?_)
   by_cases hlt:(n:Int)<r.1
   ·simp only [if_pos hlt]
    refine EvP.bind (l1Below_evp b _ _ 256 hr.1) (fun r1 h1=>?_)
    have hl1:=hl.1;simp only [if_pos (show l.length<140737488355328 by omega),w64_succ (show (n:Int)<4611686018427387904 by omega)]
    refine ih (n+1) x y v _ _ _ (by omega) h1.1 ⟨by simp;omega,fun z hz=>?_⟩
    rcases List.mem_append.1 hz with hz|hz
    ·exact hl.2 z hz
    ·simp only [List.mem_cons,List.not_mem_nil,or_false] at hz
     subst hz;omega
   ·simp only [if_neg hlt]
    exact EvP.now _ ⟨hr.1,⟨by have:=hl.1;dsimp only;omega,hl.2⟩,rfl,rfl,rfl⟩
 simp only [Z20.f];refine EvP.bind (l1Below_evp b i q 5 h) (fun r0 h0=>?_)
 refine EvP.bind (l1Below_evp b _ _ 4 h0.1) (fun r1 h1=>?_)
 refine EvP.bind (l1Below_evp b _ _ 3 h1.1) (fun r2 h2=>?_)
 have a0:=h0.2.2 (by omega)
 have a1:=h1.2.2 (by omega)
 have a2:=h2.2.2 (by omega)
 have b0:=h0.2.1;have b1:=h1.2.1;have b2:=h2.2.1;refine EvP.imp (key 4 0 r0.1 (wrap64 (1+r1.1)) r2.1 [] _ _ (by omega) h2.1 ⟨by simp,by simp⟩) (fun r hr=>?_)
 obtain ⟨p1,p2,p3,p4,p5⟩:=hr;rw [w64 (by omega) (by omega)] at p4
 exact ⟨p1,p2,by omega,by omega,by omega⟩
theorem l2Draw_evp (b:List Int) (i q:Int) (h:CurOk b i):EvP (fun k=>Z47.f k b i q) (fun r=>CurOk b r.2.2.2.2.1∧LoadOk 31 r.2.2.2.1):=by
 simp only [Z47.f];refine EvP.bind (l2DrawRight_evp b i q h) (fun r hr=>?_)
 obtain ⟨hc,hl,_⟩:=hr;have hl':LoadOk 31 r.2.2.2.1:=⟨by have:=hl.1;omega,hl.2⟩
 refine EvP.bind (l1Below_evp b _ _ 10 hc) (fun r1 h1=>?_)
 by_cases e0:r1.1=0
 ·simp only [if_pos e0]
  refine EvP.bind (l1PickInt_evp b _ _ [-1,9,10] h1.1 (by simp)) (fun r2 h2=>?_)
  exact EvP.now _ ⟨h2.1,hl'⟩
 simp only [if_neg e0]
 by_cases e1:r1.1=1
 ·simp only [if_pos e1]
  refine EvP.bind (l1PickInt_evp b _ _ [0,9,10] h1.1 (by simp)) (fun r2 h2=>?_)
  exact EvP.now _ ⟨h2.1,hl'⟩
 simp only [if_neg e1]
 by_cases e2:r1.1=2
 ·simp only [if_pos e2]
  refine EvP.bind (l1PickInt_evp b _ _ [-1,4,5] h1.1 (by simp)) (fun r2 h2=>?_)
  exact EvP.now _ ⟨h2.1,hl'⟩
 simp only [if_neg e2]
 by_cases e3:r1.1=3
 ·simp only [if_pos e3]
  refine EvP.bind (l1Below_evp b _ _ 2 h1.1) (fun r2 h2=>?_)
  have a0:=h2.2.1;have a1:=h2.2.2 (by omega)
  rw [w64 (by omega) (by omega)]
  simp only [if_pos (show 0≤30+r2.1 by omega),if_pos (show (30+r2.1).toNat≤281474976710656 by omega)]
  refine EvP.now _ ⟨h2.1,by simp;omega,fun x hx=>?_⟩
  rw [List.eq_of_mem_replicate hx]
  omega
 ·simp only [if_neg e3]
  exact EvP.now _ ⟨h1.1,hl'⟩
theorem drawPass_evp (l:List Int) (h:l.length≤4194304):EvP (fun k=>Z44.f k l) (fun r=>r.1.length≤5∧r.2.1.length≤4∧(∀ x∈r.2.1,x.f1.length≤5)∧Drawn3 18 r.2.2.1∧r.2.2.2.2.2.2.2.length≤31):=by
 obtain ⟨q,hq⟩:=l1New_ev l h;simp only [Z44.f];refine EvP.bind (EvP.of hq (P:=fun r=>r=(l,0,q)) rfl) (fun r hr=>?_)
 subst hr;refine EvP.bind (l5Draw_evp l 0 q ⟨by omega,by omega,h⟩) (fun r hr=>?_)
 refine EvP.bind (l1Below_evp l _ _ _ hr.1) (fun r1 h1=>?_)
 refine EvP.bind (c:=fun _=>Z45.f l r1.2.1 r1.2.2 12) (l1Once_evp l _ _ 12 h1.1) (fun r2 h2=>?_)
 by_cases e:r2.1=true
 ·simp only [if_pos e]
  refine EvP.bind (c:=fun _=>Z38.f l r2.2.1 r2.2.2 [-1,9223372036854775807]) (l1PickInt_evp l _ _ [-1,9223372036854775807] h2 (by simp)) (fun r3 h3=>?_)
  refine EvP.bind (l2Draw_evp l _ _ h3.1) (fun r4 h4=>?_)
  exact EvP.now _ ⟨hr.2.1,hr.2.2.1,hr.2.2.2.1,hr.2.2.2.2,h4.2.1⟩
 ·simp only [if_neg e]
  refine EvP.bind (l2Draw_evp l _ _ h2) (fun r4 h4=>?_)
  exact EvP.now _ ⟨hr.2.1,hr.2.2.1,hr.2.2.2.1,hr.2.2.2.2,h4.2.1⟩
theorem drawGate_evp (l:List Int) (h:l.length≤4194304):EvP (fun k=>Z67.f k l) (fun r=>r.1.length≤5∧r.2.1.length≤4∧(∀ x∈r.2.1,x.f1.length≤5)∧Drawn3 18 r.2.2.1):=by
 obtain ⟨q,hq⟩:=l1New_ev l h;simp only [Z67.f];refine EvP.bind (EvP.of hq (P:=fun r=>r=(l,0,q)) rfl) (fun r hr=>?_)
 subst hr;refine EvP.bind (l5Draw_evp l 0 q ⟨by omega,by omega,h⟩) (fun r hr=>?_)
 refine EvP.bind (l1Below_evp l _ _ _ hr.1) (fun r1 h1=>?_)
 refine EvP.bind (l1Once_evp l _ _ 2 h1.1) (fun r2 h2=>?_)
 exact EvP.now _ hr.2
def cardOk (o:List Bool) (m:List MB) (t:List HB):Bool:=decide (1≤o.length∧o.length≤4) && (decide (m.length=o.length) && (tableOk t && membersOk m))
def frameOk (a b c:Int) (l:List Int):Bool:=decide (0≤a∧a≤9∧1≤b∧b≤9∧0≤c∧c≤4∧l.length≤30)
theorem frameOk_iff' (a b c:Int) (l:List Int):frameOk a b c l=true↔0≤a∧a≤9∧1≤b∧b≤9∧0≤c∧c≤4∧l.length≤30:=by simp [frameOk]
abbrev FrB:=Int × Int × Int × List Int × Bool
def insideM (a:Int) (l:List Int) (x y v:Int) (ld:List Int):FrB :=
 if (memberOk a l && (frameOk x y v ld && l.contains (if v=0 then a else v)))=true then (x,y,if v=0 then a else v,ld,true) else (0,0,0,[],false)
def outsideM (a:Int) (l:List Int) (x y v:Int) (ld:List Int):FrB :=
 if (memberOk a l && (frameOk x y v ld && l.contains v))=true then (x,y,if v=a then 0 else v,ld,true) else (0,0,0,[],false)
theorem insideM_length (a:Int) (l:List Int) (x y v:Int) (ld:List Int) (n:Nat) (h:ld.length≤n):(insideM a l x y v ld).2.2.2.1.length≤n:=by
 unfold insideM
 (repeat' split) <;> simp [h]
def whereM (a v:Int):List HB→Int × Bool
 | []=>(0,false)
 | x :: t=>if x.f0=a∧x.f1=v then (x.f2,true) else whereM a v t
def forgetM (p:Int) (l:List HB):List HB:=l.filter fun x=>decide (x.f2≠p)
abbrev OB:=S46
theorem rdOB {l:List OB} {i:Nat} {x:OB} (h:l[i]?=some x):rd_T46 l (i:Int)=x:=getD_at h
def mAt (m:List MB) (p:Int):MB:=rd_T42 m p
def skipB (p q:Int) (kn:Bool) (o:List Bool) (i:Nat):Bool:=decide ((i:Int)=p) || (!(rdOf false o (i:Int)) || (kn && decide ((i:Int)≠q)))
def out1 (i:Nat) (r:FrB):List OB:=if r.2.2.2.2=true then [⟨(i:Int),⟨r.1,r.2.1,r.2.2.1,r.2.2.2.1⟩⟩] else []
def outsM (p q:Int) (kn:Bool) (o:List Bool) (x y v:Int) (ld:List Int):Nat→List MB→List OB
 | _,[]=>[]
 | i,a :: t=>(if skipB p q kn o i=true then [] else out1 i (outsideM a.f0 a.f1 x y v ld))++outsM p q kn o x y v ld (i+1) t
def passIn (o:List Bool) (m:List MB) (t:List HB) (p:Int) (r:FrB):List Bool × List MB × List HB × List OB :=
 if r.2.2.2.2=true then (o,m,hear t r.2.1 r.2.2.1 p,outsM p (whereM r.1 r.2.2.1 t).1 ((whereM r.1 r.2.2.1 t).2 && (r.1 != 0)) o r.1 r.2.1 r.2.2.1 r.2.2.2.1 0 m) else (o,m,t,[])
def passOn (o:List Bool) (m:List MB) (t:List HB) (p:Int):Prop:=cardOk o m t=true∧0≤p∧p<(o.length:Int)∧rdOf false o p=true
instance (o:List Bool) (m:List MB) (t:List HB) (p:Int):Decidable (passOn o m t p):=inferInstanceAs (Decidable (_∧_))
def passM (o:List Bool) (m:List MB) (t:List HB) (p x y v:Int) (ld:List Int):List Bool × List MB × List HB × List OB :=
 if passOn o m t p then passIn o m t p (insideM (mAt m p).f0 (mAt m p).f1 x y v ld) else (o,m,t,[])
theorem cardOk_len {o:List Bool} {m:List MB} {t:List HB} (h:cardOk o m t=true):m.length=o.length∧1≤o.length∧o.length≤4∧tableOk t=true∧membersOk m=true:=by
 simp only [cardOk,Bool.and_eq_true,decide_eq_true_eq] at h;exact ⟨h.2.1,h.1.1,h.1.2,h.2.2.1,h.2.2.2⟩
theorem out1_length (i:Nat) (r:FrB):(out1 i r).length≤1:=by
 unfold out1
 split <;> simp
theorem outsM_length (p q:Int) (kn:Bool) (o:List Bool) (x y v:Int) (ld:List Int):∀ (t:List MB) (i:Nat),(outsM p q kn o x y v ld i t).length≤t.length:=by
 intro t
 induction t with
 | nil=>intro i;simp [outsM]
 | cons a t ih =>
  intro i;have h1:=ih (i+1);have h2:=out1_length i (outsideM a.f0 a.f1 x y v ld);simp only [outsM,List.length_append,List.length_cons]
  split
  ·simp only [List.length_nil];omega
  ·omega
theorem mAt_mem {m:List MB} {p:Int} (h0:0≤p) (h1:p<(m.length:Int)):mAt m p∈m:=by
 obtain ⟨n,rfl⟩:=Int.eq_ofNat_of_zero_le h0;have hx:m[n]?=some m[n]:=List.getElem?_eq_getElem (by omega)
 have e:mAt m (n:Int)=m[n]:=rdMB hx;rw [e]
 exact List.getElem_mem _
theorem cloneB_eq (l:List Bool) (h:l.length≤4194304):Z57.f l=some l:=by
 simp only [Z57.f,Option.bind_some,List.length_nil,Nat.zero_add,List.nil_append];rw [if_pos (by omega)]
theorem cloneI_eq (l:List Int) (h:l.length≤4194304):Z61.f l=some l:=by
 simp only [Z61.f,Option.bind_some,List.length_nil,Nat.zero_add,List.nil_append];rw [if_pos (by omega)]
theorem cloneH_eq (l:List HB) (h:l.length≤4194304):Z40.f l=some l:=by
 simp only [Z40.f,Option.bind_some,List.length_nil,Nat.zero_add,List.nil_append];rw [if_pos (by omega)]
theorem copyCard_ev (o:List Bool) (m:List MB) (t:List HB) (ho:o.length≤4194304) (h:m.length≤4194304) (hm:∀ x∈m,x.f1.length≤4194304) (ht:t.length≤4194304):Ev (fun k=>Z10.f k o m t) (o,m,t):=by
 simp only [Z10.f,cloneB_eq o ho,cloneH_eq t ht,Option.bind_some];have:=ev_list m (fun k (acc:List MB) i=>Z10.l0 k m (m.length:Int) i o acc t) (fun acc r=>(o,acc++r,t)) (fun i acc=>acc.length≤i)
  (fun acc hI=>ev_end fun k=>by simp only [Z10.l0];rw [if_neg (by omega)];simp)
  (fun i acc x r hI hi _ hx ih=>by
   have e:acc++(x :: r)=(acc++[x])++r:=by simp
   rw [e]
   refine Ev.step (fun k=>?_) (ih (acc++[x]) (by simp;omega))
   simp only [Z10.l0];rw [if_pos (by omega),if_pos (by omega),if_pos (by omega),rdMB hx,cloneI_eq _ (hm x (List.mem_of_getElem? hx)),Option.bind_some,if_pos (by omega),w64_succ (by omega)])
  [] (by simp)
 simpa using this
def idxM (v:Int):Int→List Int→Int
 | _,[]=>-1
 | i,x :: t=>if v=x then i else idxM v (i+1) t
theorem idxM_iff (v:Int):∀ (l:List Int) (i:Int),0≤i→(0≤idxM v i l↔v∈l):=by
 intro l
 induction l with
 | nil=>intro i _;simp [idxM]
 | cons x t ih =>
  intro i hi;simp only [idxM]
  by_cases e:v=x
  ·simp [e,hi]
  ·rw [if_neg e,ih (i+1) (by omega)]
   simp [e]
theorem index_ev (l:List Int) (v:Int) (h:l.length≤4194304):Ev (fun k=>Z37.f k l v) (idxM v 0 l):=by
 refine ev_list l (fun k (s:Int) i=>Z37.l0 k l v (l.length:Int) i) (fun s t=>idxM v s t) (fun i s=>s=i) ?_ ?_ 0 rfl
 ·intro s _
  refine ev_end fun k=>?_
  simp only [Z37.l0];rw [if_neg (by omega)]
  rfl
 ·intro i s x t hI hi _ hx ih
  subst hI
  by_cases e:v=x
  ·refine ev_end fun k=>?_
   simp only [Z37.l0];rw [if_pos (by omega),if_pos (by omega),if_pos (by omega),rd_at hx,if_pos e,idxM,if_pos e]
  ·have:=ih ((i:Int)+1) (by omega)
   rw [idxM,if_neg e]
   refine Ev.step (fun k=>?_) this
   simp only [Z37.l0];rw [if_pos (by omega),if_pos (by omega),if_pos (by omega),rd_at hx,if_neg e,w64_succ (by omega)]
theorem contains_ev (l:List Int) (v:Int) (h:l.length≤4194304):Ev (fun k=>Z39.f k l v) (l.contains v):=by
 simp only [Z39.f];refine Ev.bind (index_ev l v h) (ev_some fun _=>?_)
 congr 1
 rw [Bool.eq_iff_iff]
 simp [idxM_iff v l 0 (by omega)]
theorem inRange_eq (x lo hi:Int):Z23.f x lo hi=some (decide (lo≤x∧x≤hi)):=by
 simp only [Z23.f]
 by_cases h:lo≤x
 ·rw [if_pos h];simp [h]
 ·rw [if_neg h];simp [h]
theorem isVlan_eq (x:Int):Z46.f x=some (decide (1≤x∧x≤4)):=by simp [Z46.f,inRange_eq]
theorem implMemberOk_ev (own:Int) (l:List Int) (h:l.length≤4194304):Ev (fun k=>Z18.f k own l) (memberOk own l):=by
 refine ev_list l (fun k (_:Option Int) i=>Z18.l0 k l (l.length:Int) i own l) (fun p t=>memM own l p t) (fun i p=>p=if i=0 then none else l[i - 1]?) ?_ ?_ none rfl
 ·intro p _
  refine Ev.step (f:=fun k=>((Z46.f own).bind fun t109=>(if t109=true then ((Z39.f k l own).bind fun t110=>(some t110)) else (some false)))) (fun k=>?_) ?_
  ·simp only [Z18.l0]
   rw [if_neg (by omega)]
  ·simp only [isVlan_eq,Option.bind_some,memM]
   by_cases a:1≤own∧own≤4
   ·simp only [a,and_self,decide_true,if_true,Bool.true_and]
    exact Ev.bind (contains_ev l own h) (ev_some fun _=>rfl)
   ·refine ev_some fun k=>?_
    simp [a]
 ·intro i p x t hI hi _ hx ih
  have ih':=ih (some x) (by simp [hx])
  have hbefore:∀ k,(if (i:Int) > 0 then (if 0≤(wrap64 ((i:Int) - 1)) then (if (wrap64 ((i:Int) - 1))<(l.length:Int) then (if x≤(rd l (wrap64 ((i:Int) - 1))) then (some false) else (Z18.l0 k l (l.length:Int) ((i+1:Nat):Int) own l)) else (none)) else (none)) else (Z18.l0 k l (l.length:Int) ((i+1:Nat):Int) own l))=if nextI p x=true then Z18.l0 k l (l.length:Int) ((i+1:Nat):Int) own l else some false:=by
   intro k;cases i with
   | zero=>simp at hI;subst hI;simp [nextI]
   | succ j =>
    simp at hI
    have hj:l[j]?=some l[j]:=List.getElem?_eq_getElem (by omega)
    rw [hj] at hI
    subst hI;rw [if_pos (by omega),w64 (by omega) (by omega),show ((j+1:Nat):Int) - 1=(j:Int) by omega,if_pos (by omega),if_pos (by omega),rd_at hj]
    by_cases e:l[j]<x
    ·rw [if_neg (by omega),if_pos (by simp [nextI,e])]
    ·rw [if_pos (by omega),if_neg (by simp [nextI];omega)]
  by_cases a:1≤x∧x≤4
  ·cases hb:nextI p x with
   | true =>
    have e:memM own l p (x :: t)=memM own l (some x) t:=by simp [memM,a,hb]
    rw [e]
    refine Ev.step (fun k=>?_) ih'
    simp only [Z18.l0];rw [if_pos (by omega),if_pos (by omega),if_pos (by omega),rd_at hx,w64_succ (by omega)]
    simp only [isVlan_eq,Option.bind_some,a,and_self,decide_true,if_true];rw [hbefore k,if_pos hb]
   | false =>
    have e:memM own l p (x :: t)=false:=by simp [memM,hb]
    rw [e]
    refine ev_end fun k=>?_
    simp only [Z18.l0];rw [if_pos (by omega),if_pos (by omega),if_pos (by omega),rd_at hx,w64_succ (by omega)]
    simp only [isVlan_eq,Option.bind_some,a,and_self,decide_true,if_true];rw [hbefore k,if_neg (by simp [hb])]
  ·have e:memM own l p (x :: t)=false:=by simp [memM,a]
   rw [e]
   refine ev_end fun k=>?_
   simp only [Z18.l0];rw [if_pos (by omega),if_pos (by omega),if_pos (by omega),rd_at hx]
   simp only [isVlan_eq,Option.bind_some,a,decide_false,if_false,Bool.false_eq_true]
theorem ahead_eq (a b:HB):Z52.f a.f0 a.f1 a.f2 a.f3 b.f0 b.f1 b.f2 b.f3=some (hBefore a b):=by
 simp only [Z52.f,hBefore]
 by_cases h1:a.f1<b.f1
 ·simp [h1]
 ·by_cases h2:a.f1=b.f1 <;> simp [h1,h2]
theorem isAddr_eq (x:Int):Z48.f x=some (decide (1≤x∧x≤9)):=by simp [Z48.f,inRange_eq]
theorem isPort_eq (x:Int):Z60.f x=some (decide (0≤x∧x≤3)):=by simp [Z60.f,inRange_eq]
theorem implTableOk_ev (l:List HB) (h:l.length≤4194304):Ev (fun k=>Z7.f k l) (tableOk l):=by
 refine ev_list l (fun k (_:Option HB) i=>Z7.l0 k l l (l.length:Int) i) (fun p t=>tabM l.length p t) (fun i p=>p=if i=0 then none else l[i - 1]?) ?_ ?_ none rfl
 ·intro p _
  refine ev_end fun k=>?_
  simp only [Z7.l0];rw [if_neg (by omega)]
  simp [tabM]
  omega
 ·intro i p x t hI hi _ hx ih
  have ih':=ih (some x) (by simp [hx])
  have s1:∀ k,Z7.l0 (k+1) l l (l.length:Int) (i:Int)=Z7.j1 k l (i:Int) l (l.length:Int) (i:Int) (!hOk x) x.f0 x.f1 x.f2 x.f3:=by
   intro k;simp only [Z7.l0];rw [if_pos (by omega),if_pos (by omega),if_pos (by omega),rdHB hx]
   simp only [isAddr_eq,isVlan_eq,isPort_eq,inRange_eq,Option.bind_some,hOk]
   by_cases a1:1≤x.f0∧x.f0≤9 <;> by_cases a2:1≤x.f1∧x.f1≤4 <;> by_cases a3:0≤x.f2∧x.f2≤3 <;> by_cases a4:1≤x.f3∧x.f3≤20 <;> simp only [a1,a2,a3,a4,and_self,decide_true,decide_false,if_true,if_false,Bool.false_eq_true,Bool.and_true,Bool.and_false,Bool.true_and,Bool.false_and,Bool.not_true,Bool.not_false]
  cases hok:hOk x with
  | true =>
   have hbefore:∀ k,Z7.j1 (k+1) l (i:Int) l (l.length:Int) (i:Int) (!true) x.f0 x.f1 x.f2 x.f3=if hNext p x=true then Z7.l0 k l l (l.length:Int) ((i+1:Nat):Int) else some false:=by
    intro k;simp only [Z7.j1,w64_succ (show (i:Int)<4611686018427387904 by omega)]
    rw [if_neg (by simp)]
    cases i with
    | zero=>simp at hI;subst hI;simp [hNext]
    | succ j =>
     simp at hI
     have hj:l[j]?=some l[j]:=List.getElem?_eq_getElem (by omega)
     rw [hj] at hI
     subst hI;rw [if_pos (by omega),w64 (by omega) (by omega),show ((j+1:Nat):Int) - 1=(j:Int) by omega,if_pos (by omega),if_pos (by omega),rdHB hj,ahead_eq]
     (simp [hNext]) <;> rfl
   cases hb:hNext p x with
   | true =>
    have e:tabM l.length p (x :: t)=tabM l.length (some x) t:=by simp [tabM,hok,hb]
    rw [e]
    refine Ev.step (fun k=>(s1 k).trans (by rw [hok])) (Ev.step (fun k=>?_) ih')
    rw [hbefore k,if_pos hb]
   | false =>
    have e:tabM l.length p (x :: t)=false:=by simp [tabM,hb]
    rw [e]
    refine Ev.step (fun k=>(s1 k).trans (by rw [hok])) (ev_end fun k=>?_)
    rw [hbefore k,if_neg (by simp [hb])]
  | false =>
   have e:tabM l.length p (x :: t)=false:=by simp [tabM,hok]
   rw [e]
   refine Ev.step (fun k=>(s1 k).trans (by rw [hok])) (ev_end fun k=>?_)
   simp only [Z7.j1];rw [if_pos (by simp)]
theorem implCardOk_ev (o:List Bool) (m:List MB) (t:List HB) (ho:o.length≤4194304) (h:m.length≤4194304) (hm:∀ x∈m,x.f1.length≤4194304) (ht:t.length≤4194304):Ev (fun k=>Z15.f k o m t) (cardOk o m t):=by
 refine ev_list0 m (fun k i=>Z15.l0 k m (m.length:Int) i o m t) (fun r=>decide (1≤o.length∧o.length≤4) && (decide (m.length=o.length) && (tableOk t && membersOk r)))
  ?_ (fun i x r hi _ hx ih=>?_)
 ·refine Ev.step (f:=fun k=>((Z23.f (o.length:Int) 1 4).bind fun t206=>(if t206=true then (if (m.length:Int)=(o.length:Int) then ((Z7.f k t).bind fun t207=>(some t207)) else (some false)) else (some false)))) (fun k=>?_) ?_
  ·simp only [Z15.l0]
   rw [if_neg (by omega)]
  ·simp only [inRange_eq,Option.bind_some,membersOk,Bool.and_true]
   by_cases e1:1≤o.length∧o.length≤4
   ·have e1':1≤(o.length:Int)∧(o.length:Int)≤4:=by omega
    simp only [e1,e1',and_self,decide_true,if_true,Bool.true_and]
    by_cases e2:m.length=o.length
    ·have e2':(m.length:Int)=o.length:=by omega
     simp only [e2,if_pos e2',decide_true,Bool.true_and];simp only [if_true];exact Ev.bind (implTableOk_ev t ht) (ev_some fun _=>rfl)
    ·have e2':¬ (m.length:Int)=o.length:=by omega
     simp only [e2,if_neg e2',decide_false,Bool.false_and];exact ev_some fun _=>rfl
   ·have e1':¬ (1≤(o.length:Int)∧(o.length:Int)≤4):=by omega
    simp only [e1,e1',decide_false,Bool.false_eq_true,if_false,Bool.false_and];exact ev_some fun _=>rfl
 ·refine Ev.step (f:=fun k=>(Z18.f k x.f0 x.f1).bind fun t131=>(if t131=true then (Z15.l0 k m (m.length:Int) ((i+1:Nat):Int) o m t) else (some false))) (fun k=>?_) (Ev.bind (implMemberOk_ev x.f0 x.f1 (hm x (List.mem_of_getElem? hx))) ?_)
  ·simp only [Z15.l0]
   rw [if_pos (by omega),if_pos (by omega),if_pos (by omega),rdMB hx,w64_succ (by omega)]
  ·cases hx2:memberOk x.f0 x.f1 with
   | true=>simp only [if_true,membersOk,hx2,Bool.true_and];exact ih
   | false =>
    refine ev_some fun k=>?_
    simp [membersOk,hx2]
theorem implFrameOk_eq (a b c:Int) (l:List Int):Z53.f a b c l=some (frameOk a b c l):=by
 simp only [Z53.f,inRange_eq,isAddr_eq,Option.bind_some,frameOk]
 by_cases h1:0≤a∧a≤9 <;> by_cases h2:1≤b∧b≤9 <;> by_cases h3:0≤c∧c≤4 <;> by_cases h4:l.length≤30 <;> simp [h1,h2,h3,h4] <;> omega
theorem clone_eq (l:List Int) (h:l.length≤4194304):Z58.f l=some l:=by
 simp only [Z58.f,Option.bind_some,List.length_nil,List.nil_append];rw [if_pos (by omega)]
theorem copyFrame_eq (a b c:Int) (l:List Int) (h:l.length≤4194304):Z50.f a b c l=some (a,b,c,l):=by
 simp [Z50.f,clone_eq l h]
theorem implInside_ev (a:Int) (l:List Int) (x y v:Int) (ld:List Int) (hl:l.length≤4194304) (hd:ld.length≤4194304):Ev (fun k=>Z19.f k a l x y v ld) (insideM a l x y v ld):=by
 obtain ⟨K1,h1⟩:=implMemberOk_ev a l hl;obtain ⟨K2,h2⟩:=contains_ev l (if v=0 then a else v) hl;refine ⟨K1+K2+1,fun k hk=>?_⟩
 obtain ⟨j,rfl⟩:∃ j,k=j+1:=⟨k - 1,by omega⟩
 have e1:=h1 (j+1) (by omega)
 have e2:=h2 j (by omega)
 simp only [Z19.f,Z19.j0,e1,implFrameOk_eq,Option.bind_some,copyFrame_eq x y v ld hd,insideM];cases memberOk a l
 ·simp
 ·cases frameOk x y v ld
  ·simp
  ·by_cases hv:v=0
   ·simp only [if_pos hv] at e2 ⊢
    simp only [e2,Option.bind_some,if_true,Bool.true_and,Bool.not_true,Bool.false_eq_true,if_false];cases l.contains a <;> simp
   ·simp only [if_neg hv] at e2 ⊢
    simp only [e2,Option.bind_some,if_true,Bool.true_and,Bool.not_true,Bool.false_eq_true,if_false];cases l.contains v <;> simp
theorem implOutside_ev (a:Int) (l:List Int) (x y v:Int) (ld:List Int) (hl:l.length≤4194304) (hd:ld.length≤4194304):Ev (fun k=>Z31.f k a l x y v ld) (outsideM a l x y v ld):=by
 obtain ⟨K1,h1⟩:=implMemberOk_ev a l hl;obtain ⟨K2,h2⟩:=contains_ev l v hl;refine ⟨K1+K2+1,fun k hk=>?_⟩
 obtain ⟨j,rfl⟩:∃ j,k=j+1:=⟨k - 1,by omega⟩
 have e1:=h1 (j+1) (by omega)
 have e2:=h2 (j+1) (by omega)
 simp only [Z31.f,Z31.j0,e1,e2,implFrameOk_eq,Option.bind_some,copyFrame_eq x y v ld hd,outsideM]
 by_cases hv:v=a <;> cases memberOk a l <;> cases frameOk x y v ld <;> cases l.contains v <;> simp [hv]
theorem implWhere_ev (l:List HB) (a v:Int) (h:l.length≤4194304):Ev (fun k=>Z17.f k l a v) (whereM a v l):=by
 refine ev_list0 l (fun k i=>Z17.l0 k a v l (l.length:Int) i) (whereM a v)
  (ev_end fun k=>by simp only [Z17.l0];rw [if_neg (by omega)];rfl)
  (fun i x t hi _ hx ih=>?_)
 by_cases h1:x.f0=a
 ·by_cases h2:x.f1=v
  ·refine ev_end fun k=>?_
   simp only [Z17.l0];rw [if_pos (by omega),if_pos (by omega),if_pos (by omega),rdHB hx,if_pos h1,if_pos h2,whereM,if_pos ⟨h1,h2⟩]
  ·rw [whereM,if_neg (by simp [h2])]
   refine Ev.step (fun k=>?_) ih
   simp only [Z17.l0];rw [if_pos (by omega),if_pos (by omega),if_pos (by omega),rdHB hx,if_pos h1,if_neg h2,w64_succ (by omega)]
 ·rw [whereM,if_neg (by simp [h1])]
  refine Ev.step (fun k=>?_) ih
  simp only [Z17.l0];rw [if_pos (by omega),if_pos (by omega),if_pos (by omega),rdHB hx,if_neg h1,w64_succ (by omega)]
def othersM (a v:Int) (l:List HB):List HB:=l.filter fun x=>!(decide (x.f0=a∧x.f1=v))
theorem othersM_length (a v:Int) (l:List HB):(othersM a v l).length≤l.length:=List.length_filter_le _ _
theorem implOthers_ev (l:List HB) (a v:Int) (h:l.length≤4194304):Ev (fun k=>Z21.f k l a v) (othersM a v l):=by
 have:=ev_list l (fun k (acc:List HB) i=>Z21.l0 k a v acc l (l.length:Int) i) (fun acc t=>acc++othersM a v t) (fun i acc=>acc.length≤i)
  (fun acc hI=>ev_end fun k=>by simp only [Z21.l0];rw [if_neg (by omega)];simp [othersM])
  (fun i acc x t hI hi _ hx ih=>by
   by_cases hp:x.f0=a∧x.f1=v
   ·have hd:(!(decide (x.f0=a∧x.f1=v)))=false:=by rw [decide_eq_true hp];rfl
    have e:acc++othersM a v (x :: t)=acc++othersM a v t:=by simp only [othersM,List.filter_cons,hd,Bool.false_eq_true,if_false]
    rw [e]
    refine Ev.step (fun k=>?_) (ih acc (by omega))
    simp only [Z21.l0];rw [if_pos (by omega),if_pos (by omega),if_pos (by omega),rdHB hx,if_pos hp.1,if_pos hp.2,w64_succ (by omega)]
   ·have hd:(!(decide (x.f0=a∧x.f1=v)))=true:=by rw [decide_eq_false hp];rfl
    have e:acc++othersM a v (x :: t)=(acc++[x])++othersM a v t:=by simp only [othersM,List.filter_cons,hd,if_true,List.append_assoc,List.cons_append,List.nil_append]
    rw [e]
    refine Ev.step (fun k=>?_) (ih (acc++[x]) (by simp;omega))
    simp only [Z21.l0];rw [if_pos (by omega),if_pos (by omega),if_pos (by omega),rdHB hx,w64_succ (by omega)]
    by_cases h1:x.f0=a
    ·have h2:¬ x.f1=v:=fun h=>hp ⟨h1,h⟩
     rw [if_pos h1,if_neg h2,if_pos (by omega)]
    ·rw [if_neg h1,if_pos (by omega)])
  [] (by simp)
 simpa [Z21.f] using this
theorem cloneHeard_eq (l:List HB) (h:l.length≤4194304):Z40.f l=some l:=by
 simp only [Z40.f,Option.bind_some,List.length_nil,Nat.zero_add,List.nil_append];rw [if_pos (by omega)]
theorem growHeard_eq (n:Int) (h0:0≤n) (h1:n≤1099511627776):Z56.f ([]:List HB) n=some []:=by
 simp only [Z56.f];rw [if_pos ⟨h0,h1⟩]
theorem concatHeard_ev (A B C:List HB) (h:A.length+B.length+C.length≤8388608):Ev (fun k=>Z6.f k [A,B,C]) (A++(B++C)):=by
 have r0:rd_L6 [A,B,C] 0=A:=rfl;have r1:rd_L6 [A,B,C] 1=B:=rfl;have r2:rd_L6 [A,B,C] 2=C:=rfl;have e3:(([A,B,C]:List (List HB)).length:Int)=3:=rfl;have s1:∀ k,Z6.l0 (k+1) [A,B,C] 0 [A,B,C] 3 0=Z6.l0 k [A,B,C] (A.length:Int) [A,B,C] 3 1:=by
  intro k;simp only [Z6.l0,r0,e3];rw [if_pos (by omega),if_pos (by omega),if_pos (by omega),w64 (x:=0+(A.length:Int)) (by omega) (by omega),if_neg (by omega),w64 (x:=0+1) (by omega) (by omega)]
  simp
 have s2:∀ k,Z6.l0 (k+1) [A,B,C] (A.length:Int) [A,B,C] 3 1=Z6.l0 k [A,B,C] ((A.length:Int)+B.length) [A,B,C] 3 2:=by
  intro k;simp only [Z6.l0,r1,e3];rw [if_pos (by omega),if_pos (by omega),if_pos (by omega),w64 (x:=(A.length:Int)+(B.length:Int)) (by omega) (by omega),if_neg (by omega),w64 (x:=1+1) (by omega) (by omega)]
  rfl
 have s3:∀ k,Z6.l0 (k+1) [A,B,C] ((A.length:Int)+B.length) [A,B,C] 3 2=Z6.l0 k [A,B,C] ((A.length:Int)+B.length+C.length) [A,B,C] 3 3:=by
  intro k;simp only [Z6.l0,r2,e3];rw [if_pos (by omega),if_pos (by omega),if_pos (by omega),w64 (x:=(A.length:Int)+(B.length:Int)+C.length) (by omega) (by omega),if_neg (by omega),w64 (x:=2+1) (by omega) (by omega)]
  rfl
 have s4:∀ k,Z6.l0 (k+1) [A,B,C] ((A.length:Int)+B.length+C.length) [A,B,C] 3 3=Z6.l1 k [] [A,B,C] 3 0:=by
  intro k;simp only [Z6.l0,e3];rw [if_neg (by omega),growHeard_eq _ (by omega) (by omega)]
  rfl
 have t1:∀ k,Z6.l1 (k+1) [] [A,B,C] 3 0=Z6.l1 k A [A,B,C] 3 1:=by
  intro k;simp only [Z6.l1,r0,e3];rw [if_pos (by omega),if_pos (by omega),if_pos (by omega),if_pos (by simp;omega),w64 (x:=0+1) (by omega) (by omega)]
  simp
 have t2:∀ k,Z6.l1 (k+1) A [A,B,C] 3 1=Z6.l1 k (A++B) [A,B,C] 3 2:=by
  intro k;simp only [Z6.l1,r1,e3];rw [if_pos (by omega),if_pos (by omega),if_pos (by omega),if_pos (by omega),w64 (x:=1+1) (by omega) (by omega)]
  rfl
 have t3:∀ k,Z6.l1 (k+1) (A++B) [A,B,C] 3 2=Z6.l1 k (A++(B++C)) [A,B,C] 3 3:=by
  intro k;simp only [Z6.l1,r2,e3];rw [if_pos (by omega),if_pos (by omega),if_pos (by omega),if_pos (by simp;omega),w64 (x:=2+1) (by omega) (by omega),List.append_assoc]
  rfl
 have t4:∀ k,Z6.l1 (k+1) (A++(B++C)) [A,B,C] 3 3=some (A++(B++C)):=by
  intro k;simp only [Z6.l1,e3];rw [if_neg (by omega)]
 have z8:Ev (fun k=>Z6.l1 k (A++(B++C)) [A,B,C] 3 3) (A++(B++C)):=ev_end t4
 have z7:Ev (fun k=>Z6.l1 k (A++B) [A,B,C] 3 2) (A++(B++C)):=Ev.step t3 z8
 have z6:Ev (fun k=>Z6.l1 k A [A,B,C] 3 1) (A++(B++C)):=Ev.step t2 z7
 have z5:Ev (fun k=>Z6.l1 k [] [A,B,C] 3 0) (A++(B++C)):=Ev.step t1 z6
 have z4:Ev (fun k=>Z6.l0 k [A,B,C] ((A.length:Int)+B.length+C.length) [A,B,C] 3 3) (A++(B++C)):=Ev.step s4 z5
 have z3:Ev (fun k=>Z6.l0 k [A,B,C] ((A.length:Int)+B.length) [A,B,C] 3 2) (A++(B++C)):=Ev.step s3 z4
 have z2:Ev (fun k=>Z6.l0 k [A,B,C] (A.length:Int) [A,B,C] 3 1) (A++(B++C)):=Ev.step s2 z3
 have z1:Ev (fun k=>Z6.l0 k [A,B,C] 0 [A,B,C] 3 0) (A++(B++C)):=Ev.step s1 z2
 refine Ev.congr (fun k=>?_) z1
 simp only [Z6.f,e3]
theorem hearM_true (a v:Int) (x:HB):∀ t,hearM a v x true t=othersM a v t
 | []=>rfl
 | y :: t=>by
  simp only [hearM,Bool.not_true,Bool.false_and,Bool.false_eq_true,if_false,hearM_true a v x t,othersM,List.filter_cons]
  by_cases h:y.f0=a∧y.f1=v <;> simp [h]
def aheadN (x:HB):List HB→Nat
 | []=>0
 | y :: t=>if hBefore y x=true then aheadN x t+1 else 0
theorem hearM_cut (a v:Int) (x:HB):∀ l,hearM a v x false l=othersM a v (l.take (aheadN x l))++([x]++othersM a v (l.drop (aheadN x l)))
 | []=>rfl
 | y :: t=>by
  by_cases hb:hBefore y x=true
  ·simp only [hearM,aheadN,hb,Bool.not_false,Bool.not_true,Bool.and_false,Bool.false_eq_true,if_false,if_true,List.take_succ_cons,List.drop_succ_cons,hearM_cut a v x t]
   simp only [othersM,List.filter_cons]
   by_cases h:y.f0=a∧y.f1=v <;> simp [h]
  ·have hb':hBefore y x=false:=by simpa using hb
   simp only [hearM,aheadN,hb',Bool.not_false,Bool.and_true,Bool.false_eq_true,if_false,if_true,List.take_zero,List.drop_zero,hearM_true];simp only [othersM,List.filter_cons,List.filter_nil,List.nil_append]
   by_cases h:y.f0=a∧y.f1=v <;> simp [h]
theorem implHear_j (l:List HB) (a v p:Int) (n:Nat) (h:l.length≤2097152) (hn:n≤l.length) (he:n=aheadN (hearX a v p) l):Ev (fun k=>Z8.j1 k l a v l (n:Int) a v p 20) (hear l a v p):=by
 have h1:=implOthers_ev (l.take n) a v (by rw [List.length_take];omega)
 have h2:=implOthers_ev (l.drop n) a v (by rw [List.length_drop];omega)
 have l1:=othersM_length a v (l.take n);have l2:=othersM_length a v (l.drop n);rw [List.length_take] at l1
 rw [List.length_drop] at l2
 have h3:=concatHeard_ev (othersM a v (l.take n)) [⟨a,v,p,20⟩] (othersM a v (l.drop n)) (by simp;omega)
 have e:othersM a v (l.take n)++([⟨a,v,p,20⟩]++othersM a v (l.drop n))=hearNew l a v p:=by
  rw [hearNew,hearM_cut,he]
  rfl
 rw [e] at h3
 have ln:(hearNew l a v p).length≤l.length+1:=(hearM_length a v _ l).2;refine Ev.step (f:=fun k=>_) (fun k=>by simp only [Z8.j1,Int.toNat_natCast];rw [if_pos (by omega),if_pos (by omega)]) ?_
 refine Ev.bind h1 (Ev.bind h2 (Ev.bind h3 (Ev.bind (implTableOk_ev _ (by omega)) (ev_some fun k=>?_))))
 unfold hear
 by_cases ht:tableOk (hearNew l a v p)=true
 ·rw [if_pos ht,if_pos ht]
 ·rw [if_neg ht,if_neg ht,cloneHeard_eq l (by omega)]
  rfl
theorem implHear_ev (l:List HB) (a v p:Int) (h:l.length≤2097152):Ev (fun k=>Z8.f k l a v p) (hear l a v p):=by
 have key:∀ (d i:Nat),i+d=l.length→aheadN (hearX a v p) l=i+aheadN (hearX a v p) (l.drop i)→Ev (fun k=>Z8.l0 k l a v l (i:Int) a v p 20) (hear l a v p):=by
  intro d
  induction d with
  | zero =>
   intro i hi ha;refine Ev.step (fun k=>?_) (implHear_j l a v p i h (by omega) ?_)
   ·simp only [Z8.l0]
    rw [if_neg (by omega)]
   ·rw [ha,List.drop_eq_nil_of_le (by omega)]
    rfl
  | succ d ih =>
   intro i hi ha;have hx:l[i]?=some l[i]:=List.getElem?_eq_getElem (by omega)
   rw [List.drop_eq_getElem_cons (by omega)] at ha
   simp only [aheadN] at ha;have hq:=ahead_eq (l[i]) (hearX a v p);simp only [hearX] at hq
   by_cases hb:hBefore l[i] (hearX a v p)=true
   ·rw [if_pos hb] at ha
    refine Ev.step (fun k=>?_) (ih (i+1) (by omega) (by omega))
    simp only [Z8.l0];rw [if_pos (by omega),if_pos (by omega),rdHB hx,hq]
    simp only [hearX] at hb;simp only [Option.bind_some,hb,if_true];rw [w64_succ (by omega)]
   ·rw [if_neg hb] at ha
    refine Ev.step (fun k=>?_) (implHear_j l a v p i h (by omega) (by omega))
    simp only [Z8.l0];rw [if_pos (by omega),if_pos (by omega),rdHB hx,hq]
    simp only [hearX] at hb;have hb':hBefore l[i] ⟨a,v,p,20⟩=false:=by simpa using hb
    simp only [Option.bind_some,hb',Bool.false_eq_true,if_false]
 refine Ev.congr (fun k=>?_) (key l.length 0 (by omega) (by simp))
 simp only [Z8.f,cloneHeard_eq l (by omega),Option.bind_some]
 rfl
theorem isOpen_eq (o:List Bool) (m:List MB) (t:List HB) (p:Int) (ho:o.length≤4194304):Z59.f o m t p=some (decide (0≤p∧p<(o.length:Int)) && rdOf false o p):=by
 simp only [Z59.f,inRange_eq,Option.bind_some];rw [w64 (by omega) (by omega)]
 by_cases e1:0≤p∧p<(o.length:Int)
 ·rw [if_pos (by simp;omega),if_pos e1.1,if_pos e1.2]
  simp [e1]
 ·rw [if_neg (by simp;omega)]
  have:decide (0≤p∧p<(o.length:Int))=false:=decide_eq_false e1;rw [this,Bool.false_and]
theorem implPass_l0 (o:List Bool) (m:List MB) (t tt:List HB) (p q:Int) (kn:Bool) (x y v:Int) (ld:List Int) (ho:m.length=o.length) (h4:o.length≤4) (hm:∀ x∈m,x.f1.length≤4194304) (hld:ld.length≤4194304) :
  Ev (fun k=>Z2.l0 k p q kn ([]:List OB) m (m.length:Int) 0 o m t o m tt x y v ld) (o,m,tt,outsM p q kn o x y v ld 0 m):=by
 have key:∀ (d i:Nat) (acc:List OB),i+d=m.length→acc.length≤i→Ev (fun k=>Z2.l0 k p q kn acc m (m.length:Int) (i:Int) o m t o m tt x y v ld) (o,m,tt,acc++outsM p q kn o x y v ld i (m.drop i)):=by
  intro d
  induction d with
  | zero =>
   intro i acc hi ha;rw [List.drop_eq_nil_of_le (by omega)]
   refine ev_end fun k=>?_
   simp only [Z2.l0];rw [if_neg (by omega)]
   simp [outsM]
  | succ d ih =>
   intro i acc hi ha;have hx:m[i]?=some m[i]:=List.getElem?_eq_getElem (by omega)
   rw [List.drop_eq_getElem_cons (by omega)]
   simp only [outsM];have j3:∀ b,b=skipB p q kn o i→Ev (fun k=>Z2.j3 k p q kn acc (i:Int) m (m.length:Int) (i:Int) b o m t o m tt x y v ld m[i].f0 m[i].f1) (o,m,tt,acc++((if skipB p q kn o i=true then [] else out1 i (outsideM m[i].f0 m[i].f1 x y v ld))++outsM p q kn o x y v ld (i+1) (m.drop (i+1)))):=by
    intro b hb;subst hb;refine Ev.succ ?_;simp only [Z2.j3,w64_succ (show (i:Int)<4611686018427387904 by omega)]
    by_cases hs:skipB p q kn o i=true
    ·simp only [if_pos hs,List.nil_append]
     exact ih (i+1) acc (by omega) (by omega)
    ·simp only [if_neg hs]
     refine Ev.bind (implOutside_ev m[i].f0 m[i].f1 x y v ld (hm _ (List.getElem_mem _)) hld) ?_;unfold out1
     by_cases hf:(outsideM m[i].f0 m[i].f1 x y v ld).2.2.2.2=true
     ·simp only [if_pos hf,if_pos (show acc.length<2513169434916 by omega)]
      rw [← List.append_assoc]
      exact ih (i+1) _ (by omega) (by simp;omega)
     ·simp only [if_neg hf,List.nil_append]
      exact ih (i+1) acc (by omega) (by omega)
   refine Ev.succ ?_;simp only [Z2.l0,if_pos (show (i:Int)<(m.length:Int) by omega),if_pos (show (0:Int)≤(i:Int) by omega),if_pos (show (i:Int)<(o.length:Int) by omega),rdMB hx]
   by_cases e1:(i:Int)=p
   ·simp only [if_pos e1]
    exact j3 true (by simp [skipB,e1])
   ·simp only [if_neg e1]
    by_cases e2:rdOf false o (i:Int)=true
    ·simp only [if_pos e2]
     cases kn with
     | true =>
      simp only [if_true];exact j3 _ (by simp [skipB,e1,e2,bne,BEq.beq])
     | false =>
      simp only [Bool.false_eq_true,if_false];exact j3 false (by simp [skipB,e1,e2])
    ·simp only [if_neg e2]
     exact j3 true (by simp [skipB,e1,e2])
 have:=key m.length 0 [] (by omega) (by simp)
 simpa using this
theorem implPass_ev (o:List Bool) (m:List MB) (t:List HB) (p x y v:Int) (ld:List Int) (ho:o.length≤4194304) (h:m.length≤4194304) (hm:∀ x∈m,x.f1.length≤4194304) (ht:t.length≤2097152) (hld:ld.length≤4194304):Ev (fun k=>Z2.f k o m t p x y v ld) (passM o m t p x y v ld):=by
 have ht':t.length≤4194304:=by omega
 simp only [Z2.f];refine Ev.bind (copyCard_ev o m t ho h hm ht') ?_;simp only [isOpen_eq o m t p ho,Option.bind_some];have j0t:Ev (fun k=>Z2.j0 k p true o m t x y v ld o m t) (o,m,t,[]):=Ev.succ (by simp only [Z2.j0,if_true];exact ev_some fun _=>rfl)
 by_cases e1:(decide (0≤p∧p<(o.length:Int)) && rdOf false o p)=true
 ·simp only [if_pos e1]
  refine Ev.bind (implCardOk_ev o m t ho h hm ht') ?_;simp only [Bool.and_eq_true,decide_eq_true_eq] at e1;obtain ⟨⟨e1,e2⟩,e3⟩:=e1;cases hc:cardOk o m t with
  | false =>
   have:passM o m t p x y v ld=(o,m,t,[]):=by unfold passM;rw [if_neg (fun h=>by rw [h.1] at hc;cases hc)]
   rw [this]
   exact j0t
  | true =>
   obtain ⟨c1,c2,c3,c4,c5⟩:=cardOk_len hc;have:passM o m t p x y v ld=passIn o m t p (insideM (mAt m p).f0 (mAt m p).f1 x y v ld):=by unfold passM;rw [if_pos ⟨hc,e1,e2,e3⟩]
   rw [this]
   refine Ev.succ ?_;simp only [Z2.j0,Bool.not_true,Bool.false_eq_true,if_false,if_pos e1,if_pos (show p<(m.length:Int) by omega)]
   have hmem:=mAt_mem (m:=m) e1 (by omega)
   refine Ev.bind (implInside_ev (mAt m p).f0 (mAt m p).f1 x y v ld (hm _ hmem) hld) ?_;have hil:=insideM_length (mAt m p).f0 (mAt m p).f1 x y v ld 4194304 hld;generalize insideM (mAt m p).f0 (mAt m p).f1 x y v ld=r at hil ⊢
   unfold passIn
   by_cases hr:r.2.2.2.2=true
   ·simp only [if_pos hr]
    refine Ev.bind (implWhere_ev t r.1 r.2.2.1 ht') ?_;have j1:∀ b,b=((whereM r.1 r.2.2.1 t).2 && (r.1 != 0))→Ev (fun k=>Z2.j1 k p (whereM r.1 r.2.2.1 t).1 b o m t o m t r.1 r.2.1 r.2.2.1 r.2.2.2.1) (o,m,hear t r.2.1 r.2.2.1 p,outsM p (whereM r.1 r.2.2.1 t).1 ((whereM r.1 r.2.2.1 t).2 && (r.1 != 0)) o r.1 r.2.1 r.2.2.1 r.2.2.2.1 0 m):=by
     intro b hb;subst hb;refine Ev.succ ?_;simp only [Z2.j1];refine Ev.bind (implHear_ev t r.2.1 r.2.2.1 p ht) ?_;exact implPass_l0 o m t _ p _ _ _ _ _ _ c1 c3 hm hil
    by_cases hw:(whereM r.1 r.2.2.1 t).2=true
    ·simp only [if_pos hw]
     exact j1 _ (by rw [hw,Bool.true_and])
    ·simp only [if_neg hw]
     exact j1 _ (by rw [Bool.eq_false_iff.mpr hw,Bool.false_and])
   ·simp only [if_neg hr]
    exact ev_some fun _=>rfl
 ·simp only [if_neg e1]
  have:passM o m t p x y v ld=(o,m,t,[]):=by
   unfold passM
   rw [if_neg (fun h=>e1 (by simp [h.2.1,h.2.2.1,h.2.2.2]))]
  rw [this]
  exact j0t
theorem l5Copy_ev (o:List Bool) (m:List MB) (t:List HB) (ho:o.length≤4194304) (h:m.length≤4194304) (hm:∀ x∈m,x.f1.length≤4194304) (ht:t.length≤4194304):Ev (fun k=>Z12.f k o m t) (o,m,t):=by
 simp only [Z12.f,Option.bind_some,List.length_nil,Nat.zero_add,List.nil_append];simp only [if_pos (show o.length<140737488355328 by omega),if_pos (show t.length<4398046511104 by omega)]
 have:=ev_list m (fun k (acc:List MB) i=>Z12.l0 k i o m t o acc t) (fun acc r=>(o,acc++r,t)) (fun i acc=>acc.length≤i)
  (fun acc hI=>ev_end fun k=>by simp only [Z12.l0];rw [if_neg (by omega)];simp)
  (fun i acc x r hI hi _ hx ih=>by
   have hx1:=hm x (List.mem_of_getElem? hx);have e:acc++(x :: r)=(acc++[x])++r:=by simp
   rw [e]
   refine Ev.step (fun k=>?_) (ih (acc++[x]) (by simp;omega))
   simp only [Z12.l0];rw [if_pos (by omega),if_pos (by omega),rdMB hx]
   simp only [Option.bind_some,List.length_nil,Nat.zero_add,List.nil_append];rw [if_pos (by omega),if_pos (by omega),w64_succ (by omega)])
  [] (by simp)
 simpa using this
theorem l4Has_ev (l:List Int) (x:Int) (h:l.length≤4194304):Ev (fun k=>Z22.f k l x) (l.contains x):=by
 refine ev_list0 l (fun k i=>Z22.l0 k l x i) (fun t=>t.contains x)
  (ev_end fun k=>by simp only [Z22.l0];rw [if_neg (by omega)];rfl)
  (fun i y t hi _ hx ih=>?_)
 by_cases e:y=x
 ·refine ev_end fun k=>?_
  simp only [Z22.l0];rw [if_pos (by omega),if_pos (by omega),rd_at hx,if_pos e]
  simp [e]
 ·have e':(y :: t).contains x=t.contains x:=by
   have:¬ x=y:=fun h=>e h.symm
   simp [List.contains_cons,this]
  rw [e']
  refine Ev.step (fun k=>?_) ih
  simp only [Z22.l0];rw [if_pos (by omega),if_pos (by omega),rd_at hx,if_neg e,w64_succ (by omega)]
theorem specMemberOk_ev (own:Int) (l:List Int) (h:l.length≤4194304):Ev (fun k=>Z16.f k own l) (memberOk own l):=by
 refine ev_list l (fun k (_:Option Int) i=>Z16.l0 k i own l) (fun p t=>memM own l p t) (fun i p=>p=if i=0 then none else l[i - 1]?) ?_ ?_ none rfl
 ·intro p _
  refine Ev.step (f:=fun k=>((Z5.f own 1 4).bind fun t109=>(if t109=true then ((Z22.f k l own).bind fun t110=>(some t110)) else (some false)))) (fun k=>?_) ?_
  ·simp only [Z16.l0]
   rw [if_neg (by omega)]
  ·simp only [l1In_eq,Option.bind_some,memM]
   by_cases a:1≤own∧own≤4
   ·simp only [a,and_self,decide_true,if_true,Bool.true_and]
    exact Ev.bind (l4Has_ev l own h) (ev_some fun _=>rfl)
   ·refine ev_some fun k=>?_
    simp [a]
 ·intro i p x t hI hi _ hx ih
  have ih':=ih (some x) (by simp [hx])
  have hbefore:∀ k,(if (i:Int) > 0 then (if 0≤(wrap64 ((i:Int) - 1)) then (if (wrap64 ((i:Int) - 1))<(l.length:Int) then (if (rd l (wrap64 ((i:Int) - 1))) ≥ x then (some false) else (Z16.l0 k ((i+1:Nat):Int) own l)) else (none)) else (none)) else (Z16.l0 k ((i+1:Nat):Int) own l))=if nextI p x=true then Z16.l0 k ((i+1:Nat):Int) own l else some false:=by
   intro k;cases i with
   | zero=>simp at hI;subst hI;simp [nextI]
   | succ j =>
    simp at hI
    have hj:l[j]?=some l[j]:=List.getElem?_eq_getElem (by omega)
    rw [hj] at hI
    subst hI;rw [if_pos (by omega),w64 (by omega) (by omega),show ((j+1:Nat):Int) - 1=(j:Int) by omega,if_pos (by omega),if_pos (by omega),rd_at hj]
    by_cases e:l[j]<x
    ·rw [if_neg (by omega),if_pos (by simp [nextI,e])]
    ·rw [if_pos (by omega),if_neg (by simp [nextI];omega)]
  by_cases a:1≤x∧x≤4
  ·cases hb:nextI p x with
   | true =>
    have e:memM own l p (x :: t)=memM own l (some x) t:=by simp [memM,a,hb]
    rw [e]
    refine Ev.step (fun k=>?_) ih'
    simp only [Z16.l0];rw [if_pos (by omega),if_pos (by omega),rd_at hx,w64_succ (by omega)]
    simp only [l1In_eq,Option.bind_some,a,and_self,decide_true,if_true];rw [hbefore k,if_pos hb]
   | false =>
    have e:memM own l p (x :: t)=false:=by simp [memM,hb]
    rw [e]
    refine ev_end fun k=>?_
    simp only [Z16.l0];rw [if_pos (by omega),if_pos (by omega),rd_at hx,w64_succ (by omega)]
    simp only [l1In_eq,Option.bind_some,a,and_self,decide_true,if_true];rw [hbefore k,if_neg (by simp [hb])]
  ·have e:memM own l p (x :: t)=false:=by simp [memM,a]
   rw [e]
   refine ev_end fun k=>?_
   simp only [Z16.l0];rw [if_pos (by omega),if_pos (by omega),rd_at hx]
   simp only [l1In_eq,Option.bind_some,a,decide_false,if_false,Bool.false_eq_true]
theorem specCardOk_ev (o:List Bool) (m:List MB) (t:List HB) (ho:o.length≤4194304) (h:m.length≤4194304) (hm:∀ x∈m,x.f1.length≤4194304) (ht:t.length≤4194304):Ev (fun k=>Z13.f k o m t) (cardOk o m t):=by
 have hl:Ev (fun k=>Z13.l0 k 0 o m t) (membersOk m):=by
  refine ev_list0 m (fun k i=>Z13.l0 k i o m t) membersOk
   (ev_end fun k=>by simp only [Z13.l0];rw [if_neg (by omega)];rfl)
   (fun i x r hi _ hx ih=>?_)
  refine Ev.step (f:=fun k=>(Z16.f k x.f0 x.f1).bind fun t131=>(if t131=true then (Z13.l0 k ((i+1:Nat):Int) o m t) else (some false))) (fun k=>?_) (Ev.bind (specMemberOk_ev x.f0 x.f1 (hm x (List.mem_of_getElem? hx))) ?_)
  ·simp only [Z13.l0]
   rw [if_pos (by omega),if_pos (by omega),rdMB hx,w64_succ (by omega)]
  ·cases hx2:memberOk x.f0 x.f1 with
   | true=>simp only [if_true,membersOk,hx2,Bool.true_and];exact ih
   | false=>exact ev_some fun k=>by simp [membersOk,hx2]
 have jt:Ev (fun k=>Z13.j0 k true o m t) false:=ev_end fun k=>by simp [Z13.j0]
 have jf:Ev (fun k=>Z13.j0 k false o m t) (membersOk m):=Ev.step (fun k=>by simp only [Z13.j0,Bool.false_eq_true,if_false]) hl
 simp only [Z13.f,l1In_eq,Option.bind_some,cardOk]
 by_cases e1:1≤o.length∧o.length≤4
 ·have e1':1≤(o.length:Int)∧(o.length:Int)≤4:=by omega
  simp only [e1,e1',and_self,decide_true,if_true,Bool.true_and]
  by_cases e2:m.length=o.length
  ·have e2':(m.length:Int)=o.length:=by omega
   simp only [e2,if_pos e2',decide_true,Bool.true_and];simp only [if_true];refine Ev.bind (specTableOk_ev t ht) ?_;cases tableOk t
   ·exact jt
   ·exact jf
  ·have e2':¬ (m.length:Int)=o.length:=by omega
   simp only [e2,if_neg e2',decide_false,Bool.false_and];exact jt
 ·have e1':¬ (1≤(o.length:Int)∧(o.length:Int)≤4):=by omega
  simp only [e1,e1',decide_false,Bool.false_eq_true,if_false,Bool.false_and];exact jt
theorem specFrameOk_eq (a b c:Int) (l:List Int):Z51.f a b c l=some (frameOk a b c l):=by
 simp only [Z51.f,l1In_eq,Option.bind_some,frameOk]
 by_cases h1:0≤a∧a≤9 <;> by_cases h2:1≤b∧b≤9 <;> by_cases h3:0≤c∧c≤4 <;> by_cases h4:l.length≤30 <;> simp [h1,h2,h3,h4] <;> omega
theorem l2Copy_eq (a b c:Int) (l:List Int) (h:l.length≤4194304):Z55.f a b c l=some (a,b,c,l):=by
 simp only [Z55.f,Option.bind_some,List.length_nil,List.nil_append];rw [if_pos (by omega)]
theorem specInside_ev (a:Int) (l:List Int) (x y v:Int) (ld:List Int) (hl:l.length≤4194304) (hd:ld.length≤4194304):Ev (fun k=>Z29.f k a l x y v ld) (insideM a l x y v ld):=by
 obtain ⟨K1,h1⟩:=specMemberOk_ev a l hl;obtain ⟨K2,h2⟩:=l4Has_ev l (if v=0 then a else v) hl;refine ⟨K1+K2+1,fun k hk=>?_⟩
 obtain ⟨j,rfl⟩:∃ j,k=j+1:=⟨k - 1,by omega⟩
 have e1:=h1 j (by omega)
 have e2:=h2 j (by omega)
 simp only [Z29.f,Z29.j0,e1,specFrameOk_eq,Option.bind_some,l2Copy_eq x y v ld hd,insideM]
 by_cases hv:v=0
 ·simp only [if_pos hv] at e2 ⊢
  simp only [e2,Option.bind_some];cases memberOk a l <;> cases frameOk x y v ld <;> cases l.contains a <;> simp
 ·simp only [if_neg hv] at e2 ⊢
  simp only [e2,Option.bind_some];cases memberOk a l <;> cases frameOk x y v ld <;> cases l.contains v <;> simp
theorem specOutside_ev (a:Int) (l:List Int) (x y v:Int) (ld:List Int) (hl:l.length≤4194304) (hd:ld.length≤4194304):Ev (fun k=>Z28.f k a l x y v ld) (outsideM a l x y v ld):=by
 obtain ⟨K1,h1⟩:=specMemberOk_ev a l hl;obtain ⟨K2,h2⟩:=l4Has_ev l v hl;refine ⟨K1+K2+1,fun k hk=>?_⟩
 obtain ⟨j,rfl⟩:∃ j,k=j+1:=⟨k - 1,by omega⟩
 have e1:=h1 (j+1) (by omega)
 have e2:=h2 (j+1) (by omega)
 simp only [Z28.f,Z28.j0,e1,e2,specFrameOk_eq,Option.bind_some,l2Copy_eq x y v ld hd,outsideM]
 by_cases hv:v=a <;> cases memberOk a l <;> cases frameOk x y v ld <;> cases l.contains v <;> simp [hv]
theorem specWhere_ev (l:List HB) (a v:Int) (h:l.length≤4194304):Ev (fun k=>Z30.f k l a v) (whereM a v l):=by
 refine ev_list0 l (fun k i=>Z30.l0 k l a v i) (whereM a v)
  (ev_end fun k=>by simp only [Z30.l0];rw [if_neg (by omega)];rfl)
  (fun i x t hi _ hx ih=>?_)
 by_cases h1:x.f0=a
 ·by_cases h2:x.f1=v
  ·refine ev_end fun k=>?_
   simp only [Z30.l0];rw [if_pos (by omega),if_pos (by omega),rdHB hx,if_pos h1,if_pos h2,whereM,if_pos ⟨h1,h2⟩]
  ·rw [whereM,if_neg (by simp [h2])]
   refine Ev.step (fun k=>?_) ih
   simp only [Z30.l0];rw [if_pos (by omega),if_pos (by omega),rdHB hx,if_pos h1,if_neg h2,w64_succ (by omega)]
 ·rw [whereM,if_neg (by simp [h1])]
  refine Ev.step (fun k=>?_) ih
  simp only [Z30.l0];rw [if_pos (by omega),if_pos (by omega),rdHB hx,if_neg h1,w64_succ (by omega)]
theorem specPass_l0 (o:List Bool) (m:List MB) (t tt:List HB) (p q:Int) (kn:Bool) (x y v:Int) (ld:List Int) (ho:m.length=o.length) (h4:o.length≤4) (hm:∀ x∈m,x.f1.length≤4194304) (hld:ld.length≤4194304) :
  Ev (fun k=>Z1.l0 k p ([]:List OB) q kn 0 o m t o m tt x y v ld) (o,m,tt,outsM p q kn o x y v ld 0 m):=by
 have key:∀ (d i:Nat) (acc:List OB),i+d=m.length→acc.length≤i→Ev (fun k=>Z1.l0 k p acc q kn (i:Int) o m t o m tt x y v ld) (o,m,tt,acc++outsM p q kn o x y v ld i (m.drop i)):=by
  intro d
  induction d with
  | zero =>
   intro i acc hi ha;rw [List.drop_eq_nil_of_le (by omega)]
   refine ev_end fun k=>?_
   simp only [Z1.l0];rw [if_neg (by omega)]
   simp [outsM]
  | succ d ih =>
   intro i acc hi ha;have hx:m[i]?=some m[i]:=List.getElem?_eq_getElem (by omega)
   rw [List.drop_eq_getElem_cons (by omega)]
   simp only [outsM];have j3:∀ b,b=skipB p q kn o i→Ev (fun k=>Z1.j3 k p acc q kn (i:Int) b o m t o m tt x y v ld) (o,m,tt,acc++((if skipB p q kn o i=true then [] else out1 i (outsideM m[i].f0 m[i].f1 x y v ld))++outsM p q kn o x y v ld (i+1) (m.drop (i+1)))):=by
    intro b hb;subst hb;refine Ev.succ ?_;simp only [Z1.j3,w64_succ (show (i:Int)<4611686018427387904 by omega)]
    by_cases hs:skipB p q kn o i=true
    ·simp only [if_pos hs,List.nil_append]
     exact ih (i+1) acc (by omega) (by omega)
    ·simp only [if_neg hs,if_pos (show (i:Int)<(m.length:Int) by omega),if_pos (show (0:Int)≤(i:Int) by omega),rdMB hx]
     refine Ev.bind (specOutside_ev m[i].f0 m[i].f1 x y v ld (hm _ (List.getElem_mem _)) hld) ?_;unfold out1
     by_cases hf:(outsideM m[i].f0 m[i].f1 x y v ld).2.2.2.2=true
     ·simp only [if_pos hf,if_pos (show acc.length<2513169434916 by omega)]
      rw [← List.append_assoc]
      exact ih (i+1) _ (by omega) (by simp;omega)
     ·simp only [if_neg hf,List.nil_append]
      exact ih (i+1) acc (by omega) (by omega)
   refine Ev.succ ?_;simp only [Z1.l0,if_pos (show (i:Int)<(o.length:Int) by omega),if_pos (show (0:Int)≤(i:Int) by omega)]
   by_cases e1:(i:Int)=p
   ·simp only [if_pos e1]
    exact j3 true (by simp [skipB,e1])
   ·simp only [if_neg e1]
    by_cases e2:rdOf false o (i:Int)=true
    ·simp only [if_pos e2]
     cases kn with
     | true =>
      simp only [if_true];exact j3 _ (by simp [skipB,e1,e2,bne,BEq.beq])
     | false =>
      simp only [Bool.false_eq_true,if_false];exact j3 false (by simp [skipB,e1,e2])
    ·simp only [if_neg e2]
     exact j3 true (by simp [skipB,e1,e2])
 have:=key m.length 0 [] (by omega) (by simp)
 simpa using this
theorem specPass_ev (o:List Bool) (m:List MB) (t:List HB) (p x y v:Int) (ld:List Int) (ho:o.length≤4194304) (h:m.length≤4194304) (hm:∀ x∈m,x.f1.length≤4194304) (ht:t.length≤2097152) (hld:ld.length≤4194304):Ev (fun k=>Z1.f k o m t p x y v ld) (passM o m t p x y v ld):=by
 have ht':t.length≤4194304:=by omega
 simp only [Z1.f];refine Ev.bind (l5Copy_ev o m t ho h hm ht') ?_;simp only [Option.bind_some,l1In_eq];rw [w64 (by omega) (by omega)]
 have j0t:Ev (fun k=>Z1.j0 k p ([]:List OB) true o m t x y v ld o m t) (o,m,t,[]):=Ev.succ (by simp only [Z1.j0,if_true];exact ev_some fun _=>rfl)
 refine Ev.bind (specCardOk_ev o m t ho h hm ht') ?_;cases hc:cardOk o m t with
 | false =>
  have:passM o m t p x y v ld=(o,m,t,[]):=by unfold passM;rw [if_neg (fun h=>by rw [h.1] at hc;cases hc)]
  rw [this]
  simp only [Bool.false_eq_true,if_false];exact j0t
 | true =>
  obtain ⟨c1,c2,c3,c4,c5⟩:=cardOk_len hc;simp only [if_true]
  by_cases e1:0≤p∧p≤(o.length:Int) - 1
  ·obtain ⟨e1,e2⟩:=e1
   simp only [e1,e2,and_self,decide_true,if_true,if_pos (show p<(o.length:Int) by omega)]
   cases e3:rdOf false o p with
   | false =>
    have:passM o m t p x y v ld=(o,m,t,[]):=by unfold passM;rw [if_neg (fun h=>by rw [h.2.2.2] at e3;cases e3)]
    rw [this]
    exact j0t
   | true =>
    have:passM o m t p x y v ld=passIn o m t p (insideM (mAt m p).f0 (mAt m p).f1 x y v ld):=by unfold passM;rw [if_pos ⟨hc,e1,by omega,e3⟩]
    rw [this]
    refine Ev.succ ?_;simp only [Z1.j0,Bool.not_true,Bool.false_eq_true,if_false,if_pos e1,if_pos (show p<(m.length:Int) by omega)]
    have hmem:=mAt_mem (m:=m) e1 (by omega)
    refine Ev.bind (specInside_ev (mAt m p).f0 (mAt m p).f1 x y v ld (hm _ hmem) hld) ?_;have hil:=insideM_length (mAt m p).f0 (mAt m p).f1 x y v ld 4194304 hld;generalize insideM (mAt m p).f0 (mAt m p).f1 x y v ld=r at hil ⊢
    unfold passIn
    by_cases hr:r.2.2.2.2=true
    ·simp only [if_pos hr]
     refine Ev.bind (specWhere_ev t r.1 r.2.2.1 ht') ?_;have j1:∀ b,b=((whereM r.1 r.2.2.1 t).2 && (r.1 != 0))→Ev (fun k=>Z1.j1 k p ([]:List OB) (whereM r.1 r.2.2.1 t).1 b o m t o m t r.1 r.2.1 r.2.2.1 r.2.2.2.1) (o,m,hear t r.2.1 r.2.2.1 p,outsM p (whereM r.1 r.2.2.1 t).1 ((whereM r.1 r.2.2.1 t).2 && (r.1 != 0)) o r.1 r.2.1 r.2.2.1 r.2.2.2.1 0 m):=by
      intro b hb;subst hb;refine Ev.succ ?_;simp only [Z1.j1];refine Ev.bind (specHear_ev t r.2.1 r.2.2.1 p ht) ?_;exact specPass_l0 o m t _ p _ _ _ _ _ _ c1 c3 hm hil
     by_cases hw:(whereM r.1 r.2.2.1 t).2=true
     ·simp only [if_pos hw]
      exact j1 _ (by rw [hw,Bool.true_and])
     ·simp only [if_neg hw]
      exact j1 _ (by rw [Bool.eq_false_iff.mpr hw,Bool.false_and])
    ·simp only [if_neg hr]
     exact ev_some fun _=>rfl
  ·have e1':¬ (0≤p∧p≤(o.length:Int) - 1):=e1
   simp only [decide_eq_false e1',Bool.false_eq_true,if_false];have:passM o m t p x y v ld=(o,m,t,[]):=by unfold passM;rw [if_neg (fun h=>e1 ⟨h.2.1,by have:=h.2.2.1;omega⟩)]
   rw [this]
   exact j0t
theorem sameFlags_ev (l:List Bool) (h:l.length≤4194304):Ev (fun k=>Z25.f k l l) true:=by
 have h0:=ev_list0 l (fun k i=>Z25.l0 k l l i) (fun _=>true)
  (ev_end fun k=>by simp only [Z25.l0];rw [if_neg (by omega)])
  (fun i x t hi _ hx ih=>Ev.step (fun k=>by
   simp only [Z25.l0,bne_self_eq_false,Bool.false_eq_true,if_false];rw [if_pos (by omega),if_pos (by omega),if_pos (by omega),w64_succ (by omega)]) ih)
 refine Ev.congr (fun k=>?_) h0
 simp [Z25.f]
theorem sameInts_ev (l:List Int) (h:l.length≤4194304):Ev (fun k=>Z27.f k l l) true:=by
 have h0:=ev_list0 l (fun k i=>Z27.l0 k l l i) (fun _=>true)
  (ev_end fun k=>by simp only [Z27.l0];rw [if_neg (by omega)])
  (fun i x t hi _ hx ih=>Ev.step (fun k=>by
   simp only [Z27.l0,if_true];rw [if_pos (by omega),if_pos (by omega),if_pos (by omega),w64_succ (by omega)]) ih)
 refine Ev.congr (fun k=>?_) h0
 simp [Z27.f]
theorem sameHeard_ev (l:List HB) (h:l.length≤4194304):Ev (fun k=>Z34.f k l l) true:=by
 have h0:=ev_list0 l (fun k i=>Z34.l0 k l l i) (fun _=>true)
  (ev_end fun k=>by simp only [Z34.l0];rw [if_neg (by omega)])
  (fun i x t hi _ hx ih=>Ev.step (fun k=>by
   simp only [Z34.l0];rw [if_pos (by omega),if_pos (by omega),if_pos (by omega),rdHB hx,w64_succ (by omega)]
   simp) ih)
 refine Ev.congr (fun k=>?_) h0
 simp [Z34.f]
theorem sameCard_ev (o:List Bool) (m:List MB) (t:List HB) (ho:o.length≤4194304) (h:m.length≤4194304) (hm:∀ x∈m,x.f1.length≤4194304) (ht:t.length≤4194304):Ev (fun k=>Z11.f k o m t o m t) true:=by
 have hl:Ev (fun k=>Z11.l0 k 0 o m t o m t) true:=by
  refine ev_list0 m (fun k i=>Z11.l0 k i o m t o m t) (fun _=>true)
   (ev_end fun k=>by simp only [Z11.l0];rw [if_neg (by omega)])
   (fun i x r hi _ hx ih=>?_)
  refine Ev.step (f:=fun k=>(Z27.f k x.f1 x.f1).bind fun t403=>(if t403=true then (Z11.l0 k ((i+1:Nat):Int) o m t o m t) else (some false))) (fun k=>?_) (Ev.bind (sameInts_ev x.f1 (hm x (List.mem_of_getElem? hx))) ?_)
  ·simp only [Z11.l0]
   rw [if_pos (by omega),if_pos (by omega),if_pos (by omega),rdMB hx,w64_succ (by omega)]
   simp only [if_true]
  ·simp only [if_true]
   exact ih
 simp only [Z11.f];refine Ev.bind (sameFlags_ev o ho) ?_;simp only [if_true];refine Ev.bind (sameHeard_ev t ht) ?_;exact Ev.step (fun k=>by simp only [Z11.j0,Bool.not_true,Bool.false_eq_true,if_false]) hl
theorem implForget_ev (l:List HB) (p:Int) (h:l.length≤4194304):Ev (fun k=>Z33.f k l p) (forgetM p l):=by
 have:=ev_list l (fun k (acc:List HB) i=>Z33.l0 k p acc l (l.length:Int) i) (fun acc t=>acc++forgetM p t) (fun i acc=>acc.length≤i)
  (fun acc hI=>ev_end fun k=>by simp only [Z33.l0];rw [if_neg (by omega)];simp [forgetM])
  (fun i acc x t hI hi _ hx ih=>by
   by_cases hp:x.f2=p
   ·have e:acc++forgetM p (x :: t)=acc++forgetM p t:=by simp [forgetM,hp]
    rw [e]
    refine Ev.step (fun k=>?_) (ih acc (by omega))
    simp only [Z33.l0];rw [if_pos (by omega),if_pos (by omega),if_pos (by omega),rdHB hx,if_pos hp,w64_succ (by omega)]
   ·have e:acc++forgetM p (x :: t)=(acc++[x])++forgetM p t:=by simp [forgetM,hp]
    rw [e]
    refine Ev.step (fun k=>?_) (ih (acc++[x]) (by simp;omega))
    simp only [Z33.l0];rw [if_pos (by omega),if_pos (by omega),if_pos (by omega),rdHB hx,if_neg hp,if_pos (by omega),w64_succ (by omega)])
  [] (by simp)
 simpa [Z33.f] using this
def gateM (o:List Bool) (m:List MB) (t:List HB) (p:Int) (on:Bool):List Bool × List MB × List HB :=
 if 0≤p∧p<o.length∧cardOk o m t=true∧rdOf false o p≠on then (o.set p.toNat on,m,forgetM p t) else (o,m,t)
theorem gate_ev (o:List Bool) (m:List MB) (t:List HB) (p:Int) (on:Bool) (ho:o.length≤4194304) (h:m.length≤4194304) (hm:∀ x∈m,x.f1.length≤4194304) (ht:t.length≤4194304):Ev (fun k=>Z43.f k o m t p on) (gateM o m t p on):=by
 simp only [Z43.f];refine Ev.bind (copyCard_ev o m t ho h hm ht) ?_;simp only [inRange_eq,Option.bind_some];rw [w64 (by omega) (by omega)]
 by_cases e1:0≤p∧p≤(o.length:Int) - 1
 ·simp only [e1,and_self,decide_true,if_true]
  refine Ev.bind (implCardOk_ev o m t ho h hm ht) ?_;cases hc:cardOk o m t with
  | false =>
   simp only [Bool.false_eq_true,if_false];exact ev_some fun _=>by simp [gateM,hc]
  | true =>
   have e2:p<(o.length:Int):=by omega
   simp only [if_true,if_pos e1.1,if_pos e2]
   by_cases e3:rdOf false o p=on
   ·simp only [e3,beq_self_eq_true,if_true]
    exact ev_some fun _=>by simp [gateM,e3]
   ·have e3':(rdOf false o p == on)=false:=by simp [e3]
    simp only [e3',Bool.false_eq_true,if_false];refine Ev.bind (implForget_ev t p ht) (ev_some fun _=>?_)
    unfold gateM
    rw [if_pos ⟨e1.1,e2,hc,e3⟩]
 ·simp only [e1,decide_false,Bool.false_eq_true,if_false]
  refine ev_some fun _=>?_
  unfold gateM
  rw [if_neg (by omega)]
theorem specForget_ev (l:List HB) (p:Int) (h:l.length≤4194304):Ev (fun k=>Z64.f k l p) (forgetM p l):=by
 have:=ev_list l (fun k (acc:List HB) i=>Z64.l0 k l p acc i) (fun acc t=>acc++forgetM p t) (fun i acc=>acc.length≤i)
  (fun acc hI=>ev_end fun k=>by simp only [Z64.l0];rw [if_neg (by omega)];simp [forgetM])
  (fun i acc x t hI hi _ hx ih=>by
   by_cases hp:x.f2=p
   ·have e:acc++forgetM p (x :: t)=acc++forgetM p t:=by simp [forgetM,hp]
    rw [e]
    refine Ev.step (fun k=>?_) (ih acc (by omega))
    simp only [Z64.l0];rw [if_pos (by omega),if_pos (by omega),rdHB hx,if_pos hp,w64_succ (by omega)]
   ·have e:acc++forgetM p (x :: t)=(acc++[x])++forgetM p t:=by simp [forgetM,hp]
    rw [e]
    refine Ev.step (fun k=>?_) (ih (acc++[x]) (by simp;omega))
    simp only [Z64.l0];rw [if_pos (by omega),if_pos (by omega),rdHB hx,if_neg hp,if_pos (by omega),w64_succ (by omega)])
  [] (by simp)
 simpa [Z64.f] using this
theorem specGate_ev (o:List Bool) (m:List MB) (t:List HB) (p:Int) (on:Bool) (ho:o.length≤4194304) (h:m.length≤4194304) (hm:∀ x∈m,x.f1.length≤4194304) (ht:t.length≤4194304):Ev (fun k=>Z65.f k o m t p on) (gateM o m t p on):=by
 simp only [Z65.f];refine Ev.bind (l5Copy_ev o m t ho h hm ht) ?_;simp only [l1In_eq,Option.bind_some];rw [w64 (by omega) (by omega)]
 refine Ev.bind (specCardOk_ev o m t ho h hm ht) ?_;cases hc:cardOk o m t with
 | false =>
  simp only [Bool.false_eq_true,if_false];exact ev_some fun _=>by simp [gateM,hc]
 | true =>
  simp only [if_true]
  by_cases e1:0≤p∧p≤(o.length:Int) - 1
  ·have e2:p<(o.length:Int):=by omega
   simp only [e1,and_self,decide_true,if_true,if_pos e1.1,if_pos e2]
   by_cases e3:rdOf false o p=on
   ·simp only [e3,beq_self_eq_true,if_true]
    exact ev_some fun _=>by simp [gateM,e3]
   ·have e3':(rdOf false o p == on)=false:=by simp [e3]
    simp only [e3',Bool.false_eq_true,if_false];refine Ev.bind (specForget_ev t p ht) (ev_some fun _=>?_)
    unfold gateM
    rw [if_pos ⟨e1.1,e2,hc,e3⟩]
  ·simp only [e1,decide_false,Bool.false_eq_true,if_false]
   refine ev_some fun _=>?_
   unfold gateM
   rw [if_neg (by omega)]
theorem hear_tableOk {t:List HB} {a v p:Int} (ht:tableOk t=true):tableOk (hear t a v p)=true:=by
 unfold hear
 by_cases h:tableOk (hearNew t a v p)=true
 ·rw [if_pos h];exact h
 ·rw [if_neg h];exact ht
theorem outside_ok {a:Int} {l:List Int} {x y v:Int} {ld:List Int} (h:(outsideM a l x y v ld).2.2.2.2=true) :
  frameOk (outsideM a l x y v ld).1 (outsideM a l x y v ld).2.1 (outsideM a l x y v ld).2.2.1 (outsideM a l x y v ld).2.2.2.1=true:=by
 unfold outsideM at h ⊢
 by_cases hc:(memberOk a l && (frameOk x y v ld && l.contains v))=true
 ·rw [if_pos hc]
  simp only [Bool.and_eq_true] at hc;have hff:=(frameOk_iff' x y v ld).1 hc.2.1;exact (frameOk_iff' x y _ ld).2 (by dsimp only;split <;> omega)
 ·rw [if_neg hc] at h
  cases h
theorem outsM_mem (p q:Int) (kn:Bool) (o:List Bool) (x y v:Int) (ld:List Int):∀ (t:List MB) (i:Nat) (z:OB),z∈outsM p q kn o x y v ld i t→(∃ j:Nat,i≤j∧j<i+t.length∧z.f0=(j:Int)∧skipB p q kn o j=false)∧frameOk z.f1.f0 z.f1.f1 z.f1.f2 z.f1.f3=true:=by
 intro t
 induction t with
 | nil=>intro i z hz;simp [outsM] at hz
 | cons a t ih =>
  intro i z hz;simp only [outsM] at hz
  rcases List.mem_append.1 hz with hz|hz
  ·by_cases hs:skipB p q kn o i=true
   ·rw [if_pos hs] at hz
    simp at hz
   ·rw [if_neg hs] at hz
    unfold out1 at hz
    split at hz
    ·rename_i hr
     simp only [List.mem_cons,List.not_mem_nil,or_false] at hz;subst hz;exact ⟨⟨i,by omega,by simp,rfl,by simpa using hs⟩,outside_ok hr⟩
    ·simp at hz
  ·obtain ⟨⟨j,h1,h2,h3⟩,h4⟩:=ih (i+1) z hz
   exact ⟨⟨j,by omega,by simp;omega,h3⟩,h4⟩
theorem skip_open {p q:Int} {kn:Bool} {o:List Bool} {j:Nat} (h:skipB p q kn o j=false):(j:Int)≠p∧rdOf false o (j:Int)=true:=by
 simp only [skipB,Bool.or_eq_false_iff,decide_eq_false_iff_not,Bool.not_eq_false'] at h;exact ⟨h.1,h.2.1⟩
theorem outsM_sorted (p q:Int) (kn:Bool) (o:List Bool) (x y v:Int) (ld:List Int):∀ (t:List MB) (i:Nat),(outsM p q kn o x y v ld i t).Pairwise (fun a b=>a.f0<b.f0):=by
 intro t
 induction t with
 | nil=>intro i;simp [outsM]
 | cons a t ih =>
  intro i;simp only [outsM];rw [List.pairwise_append]
  refine ⟨?_,ih (i+1),fun z hz z2 hz2=>?_⟩
  ·split
   ·exact List.Pairwise.nil
   ·unfold out1
    split <;> simp
  ·obtain ⟨⟨j,h1,_,h3,_⟩,_⟩:=outsM_mem p q kn o x y v ld t (i+1) z2 hz2
   have:z.f0=(i:Int):=by
    split at hz
    ·simp at hz
    ·unfold out1 at hz
     split at hz
     ·simp only [List.mem_cons,List.not_mem_nil,or_false] at hz
      subst hz
      rfl
     ·simp at hz
   omega
theorem pass_fst (o:List Bool) (m:List MB) (t:List HB) (p x y v:Int) (ld:List Int):(passM o m t p x y v ld).1=o∧(passM o m t p x y v ld).2.1=m:=by
 unfold passM passIn
 (repeat' split) <;> exact ⟨rfl,rfl⟩
theorem pass_tab (o:List Bool) (m:List MB) (t:List HB) (p x y v:Int) (ld:List Int):(passM o m t p x y v ld).2.2.1.length≤t.length+1:=by
 unfold passM passIn
 (repeat' split)
 ·exact hear_length _ _ _ _
 ·dsimp only;omega
 ·dsimp only;omega
theorem pass_outs (o:List Bool) (m:List MB) (t:List HB) (p x y v:Int) (ld:List Int):(passM o m t p x y v ld).2.2.2.length≤m.length:=by
 unfold passM passIn
 (repeat' split)
 ·exact outsM_length _ _ _ _ _ _ _ _ _ _
 ·simp
 ·simp
theorem pass_ok {o:List Bool} {m:List MB} {t:List HB} (p x y v:Int) (ld:List Int) (h:cardOk o m t=true):cardOk o m (passM o m t p x y v ld).2.2.1=true:=by
 obtain ⟨c1,c2,c3,c4,c5⟩:=cardOk_len h;have ht:tableOk (passM o m t p x y v ld).2.2.1=true:=by
  unfold passM passIn
  (repeat' split)
  ·exact hear_tableOk c4
  ·exact c4
  ·exact c4
 simp only [cardOk,ht,c5,Bool.and_true,Bool.and_eq_true,decide_eq_true_eq];omega
theorem frameSame_self (a b c:Int) (l:List Int):Z68.f a b c l a b c l=some true:=by
 simp [Z68.f,Z69.f]
theorem drawCardOk_evp (l:List Int) (h:l.length≤4194304):EvP (fun k=>Z66.f k l) (fun r=>r.1.length≤5∧r.2.1.length≤4∧(∀ x∈r.2.1,x.f1.length≤5)∧Drawn3 18 r.2.2):=by
 obtain ⟨q,hq⟩:=l1New_ev l h;simp only [Z66.f];refine EvP.bind (EvP.of hq (P:=fun r=>r=(l,0,q)) rfl) (fun r hr=>?_)
 subst hr;refine EvP.bind (l5Draw_evp l 0 q ⟨by omega,by omega,h⟩) (fun r hr=>?_)
 exact EvP.now _ hr.2
theorem pass_all (o:List Bool) (m:List MB) (t:List HB) (p x y v:Int) (ld:List Int):(∀ z∈(passM o m t p x y v ld).2.2.2,0≤p∧p<(o.length:Int)∧rdOf false o p=true∧(∃ j:Nat,j<o.length∧z.f0=(j:Int)∧(j:Int)≠p∧rdOf false o (j:Int)=true)∧frameOk z.f1.f0 z.f1.f1 z.f1.f2 z.f1.f3=true)∧(passM o m t p x y v ld).2.2.2.Pairwise (fun a b=>a.f0<b.f0):=by
 unfold passM
 split
 ·rename_i hon
  obtain ⟨hc,h0,h1,h2⟩:=hon;obtain ⟨c1,_⟩:=cardOk_len hc;unfold passIn
  split
  ·refine ⟨fun z hz=>?_,outsM_sorted _ _ _ _ _ _ _ _ _ _⟩
   obtain ⟨⟨j,_,j2,j3,j4⟩,hf⟩:=outsM_mem _ _ _ _ _ _ _ _ _ _ z hz;exact ⟨h0,h1,h2,⟨j,by omega,j3,(skip_open j4).1,(skip_open j4).2⟩,hf⟩
  ·exact ⟨fun z hz=>by simp at hz,List.Pairwise.nil⟩
 ·exact ⟨fun z hz=>by simp at hz,List.Pairwise.nil⟩
theorem gateM_len (o:List Bool) (m:List MB) (t:List HB) (p:Int) (on:Bool):(gateM o m t p on).1.length=o.length∧(gateM o m t p on).2.1=m∧(gateM o m t p on).2.2.length≤t.length:=by
 unfold gateM
 split
 ·exact ⟨by simp,rfl,List.length_filter_le _ _⟩
 ·exact ⟨rfl,rfl,Nat.le_refl _⟩
theorem gateM_open {o:List Bool} {m:List MB} {t:List HB} {p:Int} (on:Bool) (hc:cardOk o m t=true) (h0:0≤p) (h1:p<(o.length:Int)):rdOf false (gateM o m t p on).1 p=on:=by
 unfold gateM
 by_cases e:rdOf false o p=on
 ·rw [if_neg (fun h=>h.2.2.2 e)]
  exact e
 ·rw [if_pos ⟨h0,h1,hc,e⟩]
  obtain ⟨n,rfl⟩:=Int.eq_ofNat_of_zero_le h0;have hn:n<o.length:=by omega
  simp [rdOf,List.getD_eq_getElem?_getD,hn]
theorem cards_l0 (L:List OB) (o:List Bool) (m:List MB) (t:List HB) (o':List Bool) (m':List MB) (t':List HB) (go:List Bool) (gm:List MB) (gt:List HB) (ho:List Bool) (hm:List MB) (ht:List HB) (p gp:Int) (on:Bool) (hL:L.length≤4194304) (hol:o.length≤4194304)
  (hp:∀ z∈L,0≤p∧p<(o.length:Int)∧rdOf false o p=true∧(∃ j:Nat,j<o.length∧z.f0=(j:Int)∧(j:Int)≠p∧rdOf false o (j:Int)=true)∧frameOk z.f1.f0 z.f1.f1 z.f1.f2 z.f1.f3=true) (hs:L.Pairwise (fun a b=>a.f0<b.f0))
  (hend:Ev (fun k=>Z63.l0 k p L L gp on (L.length:Int) o m t o' m' t' go gm gt ho hm ht) true):Ev (fun k=>Z63.l0 k p L L gp on 0 o m t o' m' t' go gm gt ho hm ht) true:=by
 refine ev_list0 L (fun k j=>Z63.l0 k p L L gp on j o m t o' m' t' go gm gt ho hm ht) (fun _=>true) hend (fun j z r hj _ hz ihj=>?_)
 obtain ⟨h0,h1,h2,⟨q,q1,q2,q3,q4⟩,hfo⟩:=hp z (List.mem_of_getElem? hz);have e0:0≤z.f0:=by omega
 have e1:z.f0<(o.length:Int):=by omega
 have e2:¬ z.f0=p:=by omega
 have e3:rdOf false o z.f0=true:=by rw [q2];exact q4
 refine Ev.succ ?_;simp only [Z63.l0,if_pos (show (j:Int)<(L.length:Int) by omega),if_pos (show (0:Int)≤(j:Int) by omega),rdOB hz,if_true,frameSame_self,Option.bind_some,if_neg e2,if_pos e0,if_pos e1,e3,if_pos h0,if_pos h1,h2,implFrameOk_eq,hfo,w64_succ (show (j:Int)<4611686018427387904 by omega)]
 by_cases hj0:(j:Int) > 0
 ·obtain ⟨i,rfl⟩:∃ i,j=i+1:=⟨j - 1,by omega⟩
  have hw:wrap64 (((i+1:Nat):Int) - 1)=(i:Int):=by rw [w64 (by omega) (by omega)];omega
  have hi:i<L.length:=by omega
  have hzi:L[i]?=some L[i]:=List.getElem?_eq_getElem hi;have hlt:L[i].f0<z.f0:=by
   have hz':L[i+1]=z:=by have:=List.getElem?_eq_getElem hj;rw [hz] at this;exact (Option.some.inj this).symm
   rw [← hz']
   exact List.pairwise_iff_getElem.1 hs i (i+1) hi hj (by omega)
  simp only [if_pos hj0,hw,if_pos (show (0:Int)≤(i:Int) by omega),if_pos (show (i:Int)<(L.length:Int) by omega),rdOB hzi,if_neg (show ¬ L[i].f0 ≥ z.f0 by omega)]
  exact ihj
 ·simp only [if_neg hj0]
  exact ihj
theorem FnCards:FnCardsPure:=by
 intro l hlw;refine Ev.rounds ?_;simp only [Z63.f,Z62.f,Option.bind_some]
 by_cases hbig:(l.length:Int) > 1048576
 ·exact ev_some fun _=>by simp [hbig]
 simp only [hbig,decide_false,Bool.false_eq_true,if_false];obtain ⟨⟨o,m,t,p,x,y,v,ld⟩,hd,ho,hm,hmm,ht,hld⟩:=drawPass_evp l (by omega)
 obtain ⟨⟨go,gm,gt,gp,on⟩,hgd,gho,ghm,ghmm,ght⟩:=drawGate_evp l (by omega)
 obtain ⟨⟨co,cm,ct⟩,hcd,cho,chm,chmm,cht⟩:=drawCardOk_evp l (by omega)
 dsimp only at ho hm hmm ht hld gho ghm ghmm ght cho chm chmm cht;have ht1:=ht.1;have gt1:=ght.1;have ct1:=cht.1;have hmm':∀ x∈m,x.f1.length≤4194304:=fun x hx=>by have:=hmm x hx;omega
 have ghmm':∀ x∈gm,x.f1.length≤4194304:=fun x hx=>by have:=ghmm x hx;omega
 have chmm':∀ x∈cm,x.f1.length≤4194304:=fun x hx=>by have:=chmm x hx;omega
 refine Ev.bind hd ?_;dsimp only;refine Ev.bind (implPass_ev o m t p x y v ld (by omega) (by omega) hmm' (by omega) (by omega)) ?_
 refine Ev.bind (specPass_ev o m t p x y v ld (by omega) (by omega) hmm' (by omega) (by omega)) ?_
 refine Ev.bind hgd ?_;dsimp only;refine Ev.bind (gate_ev go gm gt gp on (by omega) (by omega) ghmm' (by omega)) ?_
 refine Ev.bind hcd ?_;dsimp only;obtain ⟨e1,e2⟩:=pass_fst o m t p x y v ld;have htl:=pass_tab o m t p x y v ld;have hol:=pass_outs o m t p x y v ld;obtain ⟨hall,hsorted⟩:=pass_all o m t p x y v ld;have hok:=fun h=>pass_ok (o:=o) (m:=m) (t:=t) p x y v ld h
 simp only [e1,e2];generalize (passM o m t p x y v ld).2.2.2=L at hol hall hsorted ⊢
 generalize (passM o m t p x y v ld).2.2.1=t2 at htl hok ⊢
 obtain ⟨g1,g2,g3⟩:=gateM_len go gm gt gp on;have hopen:=fun (hc:cardOk go gm gt=true) h0 h1=>gateM_open (m:=gm) (t:=gt) (p:=gp) on hc h0 h1
 refine Ev.bind (sameCard_ev o m t2 (by omega) (by omega) hmm' (by omega)) ?_
 simp only [if_true];refine Ev.bind (specGate_ev go gm gt gp on (by omega) (by omega) ghmm' (by omega)) ?_
 rw [g2]
 generalize (gateM go gm gt gp on).1=ho1 at g1 hopen ⊢
 generalize (gateM go gm gt gp on).2.2=ht2 at g3 ⊢
 refine Ev.bind (sameCard_ev ho1 gm ht2 (by omega) (by omega) ghmm' (by omega)) ?_
 simp only [if_true];refine Ev.bind (implCardOk_ev co cm ct (by omega) (by omega) chmm' (by omega)) ?_
 refine Ev.bind (specCardOk_ev co cm ct (by omega) (by omega) chmm' (by omega)) ?_
 simp only [bne_self_eq_false];refine Ev.succ ?_;simp only [Z63.j0,Bool.false_eq_true,if_false];refine cards_l0 L o m t o m t2 go gm gt ho1 gm ht2 p gp on (by omega) (by omega) hall hsorted ?_
 have j2:Ev (fun k=>Z63.j2 k false o m t o m t2) true:=by
  refine Ev.succ ?_;simp only [Z63.j2,Bool.false_eq_true,if_false];refine Ev.bind (implCardOk_ev o m t (by omega) (by omega) hmm' (by omega)) ?_
  cases hc:cardOk o m t with
  | false=>simp only [Bool.false_eq_true,if_false];exact ev_some fun _=>rfl
  | true =>
   simp only [if_true];refine Ev.bind (implCardOk_ev o m t2 (by omega) (by omega) hmm' (by omega)) ?_
   rw [hok hc]
   exact ev_some fun _=>rfl
 refine Ev.succ ?_;simp only [Z63.l0,if_neg (show ¬ (L.length:Int)<(L.length:Int) by omega)]
 refine Ev.bind (implCardOk_ev go gm gt (by omega) (by omega) ghmm' (by omega)) ?_
 cases hc:cardOk go gm gt with
 | false=>simp only [Bool.false_eq_true,if_false];exact j2
 | true =>
  simp only [if_true]
  by_cases h0:gp ≥ 0
  ·simp only [if_pos h0]
   by_cases h1:gp<(go.length:Int)
   ·simp only [if_pos h1,if_pos (show 0≤gp by omega),if_pos (show gp<(ho1.length:Int) by omega),hopen hc h0 h1,bne_self_eq_false]
    exact j2
   ·simp only [if_neg h1]
    exact j2
  ·simp only [if_neg h0]
   exact j2
end Go.Proofs.Ytjodolkdelffaaa.Pure
