/- A part of the proof of laws.FnIns. No condition beyond what its theorems say. -/
/- The statement of laws.FnIns over numbers and lists alone: at every input it answers true. No condition but that the numbers are those of their kinds and that no slice is longer than a Go slice can be. -/
import Derived.Test.YtljbdchibfjbdaaDoorVFnInsT
import Derived.Test.YtljbdchibfjbdaaDoorVFnInsBase
import Derived.Laws.BitsLemmas
import Derived.Laws.BitsLemmas
import Derived.Laws.BitsLemmas
import Derived.Lib.Strings
import Derived.Lib.ItoaNum
import Derived.Lib.ItoaLen
import Derived.Lib.Strings
set_option linter.unusedVariables false
set_option linter.unusedSimpArgs false
namespace Go.Proofs.YtljbdchibfjbdaaDoor.Pure
open Go.RowKit Go.Proofs.YtljbdchibfjbdaaDoor.PFnIns Go.Proofs.YtljbdchibfjbdaaDoor.Base Go.Proofs.YtljbdchibfjbdaaDoorW.PrintWords Go.Proofs.YtljbdchibfjbdaaDoorW.PrintLast Go.Proofs.YtljbdchibfjbdaaDoorW.PrintMore
def FnInsPure:Prop:=∀ (l0:List (Int)),(l0.length≤maxLen∧∀ x∈l0,(Lit.int .u8 x).wf=true)→∃ k,Z0.f k l0=some true
def vecOk (r c b p:Int):Bool:=decide (1≤r∧r≤9) && (decide (1≤b∧b≤9) && (decide (r≤b) && (decide (0≤c∧c≤20) && (((c == 0) == (r == b)) && decide (0≤p∧p≤3)))))
theorem vecOk_iff (r c b p:Int):vecOk r c b p=true↔(1≤r∧r≤9)∧(1≤b∧b≤9)∧r≤b∧(0≤c∧c≤20)∧(c=0↔r=b)∧0≤p∧p≤3:=by
 unfold vecOk
 have e1:(c == 0)=decide (c=0):=by by_cases h:c=0 <;> simp [h]
 have e2:(r == b)=decide (r=b):=by by_cases h:r=b <;> simp [h]
 rw [e1,e2]
 by_cases h1:c=0 <;> by_cases h2:r=b <;> simp [h1,h2]
structure Prt where
 up:Bool
 has:Bool
 r:Int
 c:Int
 b:Int
 p:Int
 hops:Int
 left:Int
 role:Int
 wait:Int
 op:Bool
def Prt.tup (q:Prt):Bool × Bool × Int × Int × Int × Int × Int × Int × Int × Int × Bool:=(q.up,q.has,q.r,q.c,q.b,q.p,q.hops,q.left,q.role,q.wait,q.op)
def openBy (role wait:Int):Bool:=(role == 1 || role == 2) && wait == 0
def tailOk (up:Bool) (role wait:Int) (op:Bool):Bool:=decide (0≤role∧role≤3) && (((role == 0) == !up) && (decide (0≤wait∧wait≤4) && (op == openBy role wait)))
def headOk (q:Prt):Bool :=
 if q.has then q.up && (vecOk q.r q.c q.b q.p && (decide (0≤q.hops∧q.hops≤8) && decide (1≤q.left∧q.left≤3)))
 else decide (q.r=0) && (decide (q.c=0) && (decide (q.b=0) && (decide (q.p=0) && (decide (q.hops=0) && decide (q.left=0)))))
def portOk (q:Prt):Bool:=headOk q && tailOk q.up q.role q.wait q.op
abbrev PB:=S102
def pprt (x:PB):Prt:=⟨x.f0,x.f1,x.f2.f0,x.f2.f1,x.f2.f2,x.f2.f3,x.f3,x.f4,x.f5,x.f6,x.f7⟩
theorem rdPB {l:List PB} {i:Nat} {x:PB} (h:l[i]?=some x):rd_T102 l (i:Int)=x:=getD_at h
def portsOk:List PB→Bool
 | []=>true
 | x :: t=>portOk (pprt x) && portsOk t
def bridgeOk (id:Int) (l:List PB):Bool:=portsOk l && (decide (1≤id∧id≤9) && decide (1≤l.length∧l.length≤4))
theorem portsOk_iff:∀ l:List PB,portsOk l=true↔∀ x∈l,portOk (pprt x)=true:=by
 intro l
 induction l with
 | nil=>simp [portsOk]
 | cons x t ih=>simp [portsOk,ih]
def better (a b c d a' b' c' d':Int):Bool:=decide (a<a'∨a=a'∧(b<b'∨b=b'∧(c<c'∨c=c'∧d<d')))
theorem Ev.stepUp {α:Type} {g:Nat→Option α} {r:α} (h:Ev (fun k=>g (k+1)) r):Ev g r:=Ev.step (fun _=>rfl) h
def skipP (id:Int) (x:PB):Bool:=!x.f1 || (decide (x.f2.f2=id) || (decide (x.f2.f0 ≥ id) || (decide (x.f2.f1 ≥ 20) || decide (x.f3 ≥ 8))))
def stepR (id:Int) (l:List PB) (b i:Int) (x:PB):Int :=
 if skipP id x=true then b else if b<0 then i else if better x.f2.f0 x.f2.f1 x.f2.f2 x.f2.f3 (rd_T102 l b).f2.f0 (rd_T102 l b).f2.f1 (rd_T102 l b).f2.f2 (rd_T102 l b).f2.f3=true then i else b
def rootM (id:Int) (l:List PB):Int→List PB→Int
 | b,[]=>b
 | b,x :: t=>rootM id l (stepR id l b ((l.length - (t.length+1):Nat):Int) x) t
theorem drop_at {α:Type} {l:List α} {i:Nat} {x:α} {t:List α} (h:l.drop i=x :: t) (hi:i<l.length):l.length - (t.length+1)=i:=by
 have:=congrArg List.length h;simp at this
 omega
def BestOk (l:List PB) (b:Int):Prop:=b=-1∨(0≤b∧b<l.length)
theorem stepR_ok (id:Int) (l:List PB) (b:Int) (i:Nat) (x:PB) (hb:BestOk l b) (hi:i<l.length):BestOk l (stepR id l b i x):=by
 have h1:BestOk l (i:Int):=Or.inr ⟨by omega,by omega⟩
 unfold stepR
 (repeat' split) <;> assumption
theorem rootM_ok (id:Int) (l:List PB):∀ (t:List PB) (b:Int),BestOk l b→t.length≤l.length→BestOk l (rootM id l b t):=by
 intro t
 induction t with
 | nil=>intro b hb _;exact hb
 | cons x t ih =>
  intro b hb ht;simp only [List.length_cons] at ht;exact ih _ (stepR_ok id l b _ x hb (by omega)) (by omega)
def hopsM (id:Int) (l:List PB):Int:=if rootM id l (-1) l ≥ 0 then wrap64 ((rd_T102 l (rootM id l (-1) l)).f3+1) else 0
theorem root_lt (id:Int) (l:List PB) (h:rootM id l (-1) l ≥ 0):rootM id l (-1) l<(l.length:Int):=by
 have:=rootM_ok id l l (-1) (Or.inl rfl) (Nat.le_refl _)
 rcases this with e|⟨_,h1⟩
 ·omega
 ·exact h1
def ownM (id:Int) (l:List PB) (p:Int):Int × Int × Int × Int:=if rootM id l (-1) l ≥ 0 then ((rd_T102 l (rootM id l (-1) l)).f2.f0,wrap64 ((rd_T102 l (rootM id l (-1) l)).f2.f1+1),id,p) else (id,0,id,p)
def ownX (id:Int) (l:List PB) (p:Int):Int × Int × Int × Int:=if bridgeOk id l=true∧(0≤p∧p≤(l.length:Int) - 1) then ownM id l p else (0,0,0,0)
def turnM (q:Prt) (role:Int):Prt :=
 if (portOk q && (q.up && decide (1≤role∧role≤3)))=true then
  (if role=3 then ⟨q.up,q.has,q.r,q.c,q.b,q.p,q.hops,q.left,role,0,openBy role 0⟩
   else if q.role=3 then ⟨q.up,q.has,q.r,q.c,q.b,q.p,q.hops,q.left,role,4,openBy role 4⟩
   else ⟨q.up,q.has,q.r,q.c,q.b,q.p,q.hops,q.left,role,q.wait,openBy role q.wait⟩)
 else q
def ofP (q:Prt):PB:=⟨q.up,q.has,⟨q.r,q.c,q.b,q.p⟩,q.hops,q.left,q.role,q.wait,q.op⟩
theorem pprt_ofP (q:Prt):pprt (ofP q)=q:=rfl
def roleM (id:Int) (l:List PB) (i:Nat) (x:PB):Int :=
 if (i:Int)=rootM id l (-1) l then 1 else if (x.f1 && better x.f2.f0 x.f2.f1 x.f2.f2 x.f2.f3 (ownM id l i).1 (ownM id l i).2.1 (ownM id l i).2.2.1 (ownM id l i).2.2.2)=true then 3 else 2
def decP (id:Int) (l:List PB) (i:Nat) (x:PB):PB:=if x.f0=true then ofP (turnM (pprt x) (roleM id l i x)) else x
def decM (id:Int) (l:List PB):List PB:=l.mapIdx (decP id l)
theorem decM_length (id:Int) (l:List PB):(decM id l).length=l.length:=by simp [decM]
theorem decM_get {id:Int} {l:List PB} {i:Nat} {x:PB} (h:l[i]?=some x):(decM id l)[i]?=some (decP id l i x):=by simp [decM,h]
theorem turned_next {α:Type} {M L:List α} (hl:M.length=L.length) {i:Nat} {y:α} (hy:M[i]?=some y):(M.take i++L.drop i).set i y=M.take (i+1)++L.drop (i+1):=by
 have hi:i<M.length:=(List.getElem?_eq_some_iff.1 hy).1;have ht:(M.take i).length=i:=by simp;omega
 rw [List.set_append_right _ _ (by omega),ht,Nat.sub_self,List.drop_eq_getElem_cons (show i<L.length by omega),List.set_cons_zero,List.take_add_one,hy]
 simp
theorem turned_at {α:Type} {M L:List α} (hl:M.length=L.length) {i:Nat} {x:α} (hx:L[i]?=some x):(M.take i++L.drop i)[i]?=some x:=by
 have hi:i<L.length:=(List.getElem?_eq_some_iff.1 hx).1;rw [List.getElem?_append_right (by simp;omega)]
 simp only [List.length_take,List.getElem?_drop];rw [show i+(i - min i M.length)=i by omega]
 exact hx
theorem turned_length {α:Type} {M L:List α} (hl:M.length=L.length) {i:Nat} (hi:i≤L.length):(M.take i++L.drop i).length=L.length:=by
 simp;omega
def fadeM (q:Prt):Prt:=if (q.has && portOk q)=true then (if q.left - 1=0 then ⟨q.up,false,0,0,0,0,0,0,q.role,q.wait,q.op⟩ else ⟨q.up,q.has,q.r,q.c,q.b,q.p,q.hops,q.left - 1,q.role,q.wait,q.op⟩) else q
theorem portOk_left (q:Prt) (h:portOk q=true) (hh:q.has=true):1≤q.left∧q.left≤3:=by
 simp [portOk,headOk,hh] at h
 omega
def tickM (q:Prt):Prt :=
 if ((fadeM q).role=1∨(fadeM q).role=2)∧(fadeM q).wait > 0 then
  ⟨(fadeM q).up,(fadeM q).has,(fadeM q).r,(fadeM q).c,(fadeM q).b,(fadeM q).p,(fadeM q).hops,(fadeM q).left,(fadeM q).role,wrap64 ((fadeM q).wait - 1),openBy (fadeM q).role (wrap64 ((fadeM q).wait - 1))⟩
 else
  ⟨(fadeM q).up,(fadeM q).has,(fadeM q).r,(fadeM q).c,(fadeM q).b,(fadeM q).p,(fadeM q).hops,(fadeM q).left,(fadeM q).role,(fadeM q).wait,openBy (fadeM q).role (fadeM q).wait⟩
def tickP (x:PB):PB:=ofP (tickM (pprt x))
theorem fadeM_ok (q:Prt) (h:portOk q=true):portOk (fadeM q)=true:=by
 unfold fadeM
 split
 ·rename_i h1
  simp only [Bool.and_eq_true] at h1;have h2:=portOk_left q h h1.1;simp only [portOk,Bool.and_eq_true] at h ⊢
  split
  ·exact ⟨by simp [headOk],h.2⟩
  ·refine ⟨?_,h.2⟩
   have h3:=h.1;simp only [headOk,h1.1,if_true,Bool.and_eq_true,decide_eq_true_eq] at h3 ⊢;exact ⟨h3.1,h3.2.1,h3.2.2.1,by omega,by omega⟩
 ·exact h
theorem portOk_tail {q:Prt} (h:portOk q=true):(0≤q.role∧q.role≤3)∧((q.role == 0)=!q.up)∧(0≤q.wait∧q.wait≤4)∧q.op=openBy q.role q.wait:=by
 simp only [portOk,tailOk,Bool.and_eq_true,decide_eq_true_eq,beq_iff_eq] at h;exact h.2
theorem tickM_ok (q:Prt) (h:portOk q=true):portOk (tickM q)=true:=by
 have hf:=fadeM_ok q h;have ht:=portOk_tail hf;unfold tickM
 generalize fadeM q=f at hf ht ⊢
 obtain ⟨f0,f1,f2,f3,f4,f5,f6,f7,f8,f9,f10⟩:=f;simp only [portOk,Bool.and_eq_true] at hf;dsimp only at ht hf ⊢;obtain ⟨t1,t2,t3,t4⟩:=ht
 split
 ·rename_i hw
  rw [w64 (by omega) (by omega)]
  simp only [portOk,Bool.and_eq_true];refine ⟨hf.1,?_⟩;simp only [tailOk,Bool.and_eq_true,decide_eq_true_eq,beq_iff_eq];exact ⟨t1,t2,by omega,by trivial⟩
 ·simp only [portOk,Bool.and_eq_true]
  refine ⟨hf.1,?_⟩;simp only [tailOk,Bool.and_eq_true,decide_eq_true_eq,beq_iff_eq];exact ⟨t1,t2,t3,by trivial⟩
theorem portsOk_set {l:List PB} (h:portsOk l=true) {i:Nat} {x:PB} (hx:portOk (pprt x)=true):portsOk (l.set i x)=true:=by
 rw [portsOk_iff] at h ⊢
 intro y hy
 rcases List.mem_or_eq_of_mem_set hy with hy|rfl
 ·exact h y hy
 ·exact hx
theorem bridgeOk_set {id:Int} {l:List PB} (h:bridgeOk id l=true) {i:Nat} {x:PB} (hx:portOk (pprt x)=true):bridgeOk id (l.set i x)=true:=by
 simp only [bridgeOk,Bool.and_eq_true,List.length_set] at h ⊢;exact ⟨portsOk_set h.1 hx,h.2⟩
theorem bridgeOk_ports {id:Int} {l:List PB} (h:bridgeOk id l=true) {i:Nat} {x:PB} (hx:l[i]?=some x):portOk (pprt x)=true:=by
 simp only [bridgeOk,Bool.and_eq_true] at h;exact (portsOk_iff l).1 h.1 x (List.mem_of_getElem? hx)
theorem bridgeOk_len {id:Int} {l:List PB} (h:bridgeOk id l=true):1≤l.length∧l.length≤4∧1≤id∧id≤9:=by
 simp only [bridgeOk,Bool.and_eq_true,decide_eq_true_eq] at h;omega
theorem bridgeOk_map {id:Int} {l:List PB} (h:bridgeOk id l=true) {f:PB→PB} (hf:∀ x,portOk (pprt x)=true→portOk (pprt (f x))=true):bridgeOk id (l.map f)=true:=by
 simp only [bridgeOk,Bool.and_eq_true,List.length_map] at h ⊢;refine ⟨?_,h.2⟩;rw [portsOk_iff] at h ⊢
 intro y hy;obtain ⟨x,hx,rfl⟩:=List.mem_map.1 hy;exact hf x (h.1 x hx)
theorem turnM_ok' (q:Prt) (role:Int) (hq:portOk q=true):portOk (turnM q role)=true:=by
 unfold turnM
 split
 ·rename_i h1
  simp only [Bool.and_eq_true,decide_eq_true_eq] at h1;obtain ⟨_,hu,hr⟩:=h1;have h0:¬ role=0:=by omega
  simp only [portOk,Bool.and_eq_true] at hq;obtain ⟨hh,ht⟩:=hq;simp only [tailOk,Bool.and_eq_true,decide_eq_true_eq] at ht;obtain ⟨_,_,hw,_⟩:=ht;have hh':∀ (ro wa:Int) (o:Bool),headOk ⟨q.up,q.has,q.r,q.c,q.b,q.p,q.hops,q.left,ro,wa,o⟩=true:=fun _ _ _=>hh
  rw [hu] at hh'
  have h3:0≤role∧role≤3:=by omega
  split
  ·simp [portOk,hh',tailOk,hu,h0,h3]
  ·split
   ·simp [portOk,hh',tailOk,hu,h0,h3]
   ·simp [portOk,hh',tailOk,hu,h0,h3,hw]
 ·exact hq
theorem decP_ok (id:Int) (l:List PB) (i:Nat) (x:PB) (h:portOk (pprt x)=true):portOk (pprt (decP id l i x))=true:=by
 unfold decP
 split
 ·rw [pprt_ofP];exact turnM_ok' _ _ h
 ·exact h
theorem decM_ok {id:Int} {l:List PB} (h:bridgeOk id l=true):bridgeOk id (decM id l)=true:=by
 have hl:=decM_length id l;simp only [bridgeOk,Bool.and_eq_true,hl] at h ⊢;refine ⟨?_,h.2⟩;rw [portsOk_iff] at h ⊢
 intro y hy;obtain ⟨i,hi⟩:=List.getElem?_of_mem hy;have hi':i<l.length:=by
  have:=(List.getElem?_eq_some_iff.1 hi).1;omega
 have hx:=List.getElem?_eq_getElem hi';rw [decM_get (id:=id) hx] at hi
 injection hi with hi
 subst hi;exact decP_ok id l i _ (h.1 _ (List.mem_of_getElem? hx))
def claimM (q:Prt) (r c b p h:Int):Prt :=
 if (portOk q && (q.up && (vecOk r c b p && decide (0≤h∧h≤8))))=true then
  (if (q.has && (better q.r q.c q.b q.p r c b p && !(decide (q.b=b) && decide (q.p=p))))=true then q else ⟨q.up,true,r,c,b,p,h,3,q.role,q.wait,q.op⟩)
 else q
def inOk (k p r c b q h:Int) (u:Bool):Bool :=
 if k=1 then decide (0≤p∧p≤3) && vecOk r c b q && decide (0≤h∧h≤8) && !u
 else if k=3 then decide (0≤p∧p≤3∧r=0∧c=0∧b=0∧q=0∧h=0)
 else decide (k=2∧p=0∧r=0∧c=0∧b=0∧q=0∧h=0) && !u
abbrev OB:=S41
def linkP (up:Bool):PB:=if up then ⟨true,false,⟨0,0,0,0⟩,0,0,3,0,false⟩ else ⟨false,false,⟨0,0,0,0⟩,0,0,0,0,false⟩
theorem linkP_ok (up:Bool):portOk (pprt (linkP up))=true:=by cases up <;> decide
theorem claimM_ok' (q:Prt) (r c b p h:Int) (hq:portOk q=true):portOk (claimM q r c b p h)=true:=by
 unfold claimM
 split
 ·rename_i h1
  split
  ·exact hq
  ·simp only [Bool.and_eq_true,decide_eq_true_eq] at h1
   obtain ⟨_,hu,hv,hh⟩:=h1;simp only [portOk,Bool.and_eq_true] at hq ⊢;refine ⟨?_,hq.2⟩;simp [headOk,hu,hv,hh]
 ·exact hq
def inM (id:Int) (l:List PB) (kind port r c b p h:Int) (up:Bool):List PB :=
 if kind=1 then decM id (l.set port.toNat (ofP (claimM (pprt (rd_T102 l port)) r c b p h)))
 else if kind=2 then decM id (l.map tickP)
 else if (rd_T102 l port).f0=up then l else decM id (l.set port.toNat (linkP up))
theorem inM_length (id:Int) (l:List PB) (kind port r c b p h:Int) (up:Bool):(inM id l kind port r c b p h up).length=l.length:=by
 unfold inM
 (repeat' split) <;> simp [decM_length]
theorem inOk_kind {kind p r c b q h:Int} {u:Bool} (hx:inOk kind p r c b q h u=true):(kind=1∨kind=2∨kind=3)∧0≤p:=by
 unfold inOk at hx
 split at hx
 ·rename_i h1;simp only [Bool.and_eq_true,decide_eq_true_eq] at hx;exact ⟨Or.inl h1,hx.1.1.1.1⟩
 ·split at hx
  ·rename_i h3;simp only [decide_eq_true_eq] at hx;exact ⟨Or.inr (Or.inr h3),hx.1⟩
  ·simp only [Bool.and_eq_true,decide_eq_true_eq] at hx;exact ⟨Or.inr (Or.inl hx.1.1),by omega⟩
theorem inM_ok {id:Int} {l:List PB} (hok:bridgeOk id l=true) (kind port r c b p h:Int) (up:Bool) (h0:0≤port) (h1:port<(l.length:Int)):bridgeOk id (inM id l kind port r c b p h up)=true:=by
 have hx:l[port.toNat]?=some l[port.toNat]:=List.getElem?_eq_getElem (by omega)
 have e:((port.toNat:Nat):Int)=port:=by omega
 have hr:=rdPB hx;rw [e] at hr
 have hp:=bridgeOk_ports hok hx;unfold inM
 (repeat' split)
 ·rw [hr]
  exact decM_ok (bridgeOk_set hok (by rw [pprt_ofP];exact claimM_ok' _ _ _ _ _ _ hp))
 ·exact decM_ok (bridgeOk_map hok fun x hx=>by rw [tickP,pprt_ofP];exact tickM_ok _ hx)
 ·exact hok
 ·exact decM_ok (bridgeOk_set hok (linkP_ok up))
def gateAcc (old:List PB):List OB→Nat→List PB→List OB
 | acc,_,[]=>acc
 | acc,i,x :: t=>gateAcc old (if (x.f7 != (rd_T102 old (i:Int)).f7)=true then acc++[(⟨2,(i:Int),⟨0,0,0,0⟩,0,x.f7⟩:OB)] else acc) (i+1) t
def sayAcc (id:Int) (l:List PB):List OB→Nat→List PB→List OB
 | acc,_,[]=>acc
 | acc,i,x :: t=>sayAcc id l (if x.f5=2 then acc++[(⟨1,(i:Int),⟨(ownM id l i).1,(ownM id l i).2.1,(ownM id l i).2.2.1,(ownM id l i).2.2.2⟩,hopsM id l,false⟩:OB)] else acc) (i+1) t
def outsM (id:Int) (old l:List PB) (kind:Int):List OB:=if kind=2 then sayAcc id l (gateAcc old [] 0 l) 0 l else gateAcc old [] 0 l
def reactOk (id:Int) (l:List PB) (kind port r c b p h:Int) (up:Bool):Bool:=bridgeOk id l && (inOk kind port r c b p h up && decide (port<(l.length:Int)))
def reactM (id:Int) (l:List PB) (kind port r c b p h:Int) (up:Bool):Int × List PB × List OB :=
 if reactOk id l kind port r c b p h up=true then (id,inM id l kind port r c b p h up,outsM id l (inM id l kind port r c b p h up) kind) else (id,l,[])
theorem reactM_length (id:Int) (l:List PB) (kind port r c b p h:Int) (up:Bool):(reactM id l kind port r c b p h up).2.1.length=l.length:=by
 unfold reactM
 split
 ·exact inM_length _ _ _ _ _ _ _ _ _ _
 ·rfl
theorem l1In_eq (x lo hi:Int):Z2.f x lo hi=some (decide (lo≤x∧x≤hi)):=by
 simp only [Z2.f]
 by_cases h:lo≤x
 ·rw [if_pos h];simp [h]
 ·rw [if_neg h];simp [h]
theorem specVecOk_eq (r c b p:Int):Z54.f r c b p=some (vecOk r c b p):=by
 simp only [Z54.f,l1In_eq,Option.bind_some,vecOk]
 by_cases h1:1≤r∧r≤9 <;> by_cases h2:1≤b∧b≤9 <;> by_cases h3:r≤b <;> by_cases h4:0≤c∧c≤20 <;> by_cases h5:0≤p∧p≤3 <;> simp [h1,h2,h3,h4,h5]
 all_goals ((cases (c == 0) <;> cases (r == b) <;> rfl))
theorem specPortTail0 (k:Nat) (fl up has:Bool) (r c b p hops left role wait:Int) (op:Bool):Z9.j0 (k+1) fl up has r c b p hops left role wait op=some (!fl && tailOk up role wait op):=by
 simp only [Z9.j0,l1In_eq,Option.bind_some,tailOk,openBy];cases fl
 ·by_cases h1:role=1
  ·subst h1
   by_cases hw:0≤wait∧wait≤4 <;> cases up <;> simp [hw]
  ·by_cases h2:role=2
   ·subst h2
    by_cases hw:0≤wait∧wait≤4 <;> cases up <;> simp [hw]
   ·by_cases hr:0≤role∧role≤3 <;> by_cases hw:0≤wait∧wait≤4 <;> by_cases h0:role=0 <;> cases up <;> cases op <;> simp [h1,h2,hr,hw,h0]
 ·simp
theorem specPortTail1 (k:Nat) (fl up has:Bool) (r c b p hops left role wait:Int) (op:Bool):Z9.j1 (k+1) fl up has r c b p hops left role wait op=some (!fl && tailOk up role wait op):=by
 simp only [Z9.j1,l1In_eq,Option.bind_some,tailOk,openBy];cases fl
 ·by_cases h1:role=1
  ·subst h1
   by_cases hw:0≤wait∧wait≤4 <;> cases up <;> simp [hw]
  ·by_cases h2:role=2
   ·subst h2
    by_cases hw:0≤wait∧wait≤4 <;> cases up <;> simp [hw]
   ·by_cases hr:0≤role∧role≤3 <;> by_cases hw:0≤wait∧wait≤4 <;> by_cases h0:role=0 <;> cases up <;> cases op <;> simp [h1,h2,hr,hw,h0]
 ·simp
theorem specPortOk_ev (up has:Bool) (r c b p hops left role wait:Int) (op:Bool):Ev (fun k=>Z9.f k up has r c b p hops left role wait op) (portOk ⟨up,has,r,c,b,p,hops,left,role,wait,op⟩):=by
 refine ev_end fun k=>?_
 simp only [Z9.f,specVecOk_eq,l1In_eq,Option.bind_some,specPortTail0,specPortTail1,portOk,headOk];cases has
 ·by_cases r0:r=0 <;> by_cases c0:c=0 <;> by_cases b0:b=0 <;> by_cases p0:p=0 <;> by_cases h0:hops=0 <;> by_cases l0:left=0 <;> simp [r0,c0,b0,p0,h0,l0]
 ·cases up <;> cases vecOk r c b p <;> by_cases h0:0≤hops∧hops≤8 <;> by_cases l0:1≤left∧left≤3 <;> simp [h0,l0]
theorem l7Open_eq (up has:Bool) (r c b p hops left role wait:Int) (op:Bool):Z68.f up has r c b p hops left role wait op=some (up,has,r,c,b,p,hops,left,role,wait,openBy role wait):=by
 simp only [Z68.f,openBy]
 by_cases h1:role=1 <;> by_cases h2:role=2 <;> simp [h1,h2]
theorem specTurn_ev (up has:Bool) (r c b p hops left role wait:Int) (op:Bool) (ro:Int):Ev (fun k=>Z17.f k up has r c b p hops left role wait op ro) (turnM ⟨up,has,r,c,b,p,hops,left,role,wait,op⟩ ro).tup:=by
 refine Ev.bind (specPortOk_ev up has r c b p hops left role wait op) ?_;generalize hp:portOk ⟨up,has,r,c,b,p,hops,left,role,wait,op⟩=po
 refine ⟨2,fun k hk=>?_⟩
 obtain ⟨j,rfl⟩:∃ j,k=j+2:=⟨k - 2,by omega⟩
 cases po
 ·simp [Z17.j0,turnM,hp,Prt.tup]
 ·cases up
  ·simp [Z17.j0,turnM,hp,Prt.tup]
  ·simp only [l1In_eq,Option.bind_some,if_true,Z17.j0,Z17.j1,l7Open_eq,turnM,hp,Prt.tup,Bool.true_and]
   by_cases hr:1≤ro∧ro≤3
   ·by_cases e3:ro=3
    ·subst e3
     by_cases e:role=3 <;> simp [e]
    ·by_cases e:role=3 <;> simp [hr,e3,e]
   ·simp [hr]
theorem specBridgeOk_ev (id:Int) (l:List PB) (h:l.length≤4194304):Ev (fun k=>Z11.f k id l) (bridgeOk id l):=by
 refine ev_list0 l (fun k i=>Z11.l0 k i id l) (fun t=>portsOk t && (decide (1≤id∧id≤9) && decide (1≤l.length∧l.length≤4)))
  (ev_end fun k=>?_)
  (fun i x t hi _ hx ih=>?_)
 ·simp only [Z11.l0]
  rw [if_neg (by omega)]
  simp only [l1In_eq,Option.bind_some,portsOk,Bool.true_and]
  by_cases a:1≤id∧id≤9
  ·have e:decide (1≤(l.length:Int)∧(l.length:Int)≤4)=decide (1≤l.length∧l.length≤4):=by rw [decide_eq_decide];omega
   simp only [a,and_self,decide_true,if_true,Bool.true_and,e]
  ·simp [a]
 ·refine Ev.step (f:=fun k=>(Z9.f k x.f0 x.f1 x.f2.f0 x.f2.f1 x.f2.f2 x.f2.f3 x.f3 x.f4 x.f5 x.f6 x.f7).bind fun t122=>(if t122=true then (Z11.l0 k ((i+1:Nat):Int) id l) else (some false))) (fun k=>?_) (Ev.bind (specPortOk_ev _ _ _ _ _ _ _ _ _ _ _) ?_)
  ·simp only [Z11.l0]
   rw [if_pos (by omega),if_pos (by omega),rdPB hx,w64_succ (by omega)]
  ·cases hp:portOk (pprt x) with
   | true =>
    have hp':=hp;simp only [pprt] at hp';simp only [hp',if_true,portsOk,hp,Bool.true_and];exact ih
   | false =>
    have hp':=hp;simp only [pprt] at hp';refine ev_some fun k=>?_
    simp [hp',portsOk,hp]
theorem specBetter_eq (a b c d a' b' c' d':Int):Z66.f a b c d a' b' c' d'=some (better a b c d a' b' c' d'):=by
 simp only [Z66.f,better]
 by_cases h1:a=a' <;> by_cases h2:b=b' <;> by_cases h3:c=c' <;> simp [h1,h2,h3] <;> omega
theorem specRootJ (id:Int) (l:List PB) (b:Int) (i:Nat) (x:PB) (hb:BestOk l b) (hi:i<l.length) (h:l.length≤4194304) (r:Int × Bool)
  (hn:Ev (fun k=>Z4.l0 k (stepR id l b i x) ((i+1:Nat):Int) id l) r) :
  Ev (fun k=>Z4.j2 k b (i:Int) (skipP id x) id l x.f0 x.f1 x.f2.f0 x.f2.f1 x.f2.f2 x.f2.f3 x.f3 x.f4 x.f5 x.f6 x.f7) r:=by
 refine Ev.step (fun k=>?_) hn
 simp only [Z4.j2,stepR,w64_succ (show (i:Int)<4611686018427387904 by omega)]
 cases skipP id x with
 | true=>simp only [if_true]
 | false =>
  simp only [Bool.false_eq_true,if_false]
  rcases hb with rfl|⟨h0,h1⟩
  ·simp only [if_pos (show (-1:Int)<0 by omega)]
  ·simp only [if_neg (show ¬ b<0 by omega),if_pos h0,if_pos h1,specBetter_eq,Option.bind_some]
   split <;> rfl
theorem specRootPort_ev (id:Int) (l:List PB) (h:l.length≤4194304):Ev (fun k=>Z4.f k id l) (if bridgeOk id l=true then (rootM id l (-1) l,decide (rootM id l (-1) l ≥ 0)) else (-1,false)):=by
 cases hok:bridgeOk id l with
 | false =>
  simp only [Bool.false_eq_true,if_false];have hj:Ev (fun k=>Z4.j1 k (-1) 0 false id l) (-1,false):=ev_end fun k=>by simp [Z4.j1]
  refine Ev.stepUp ?_;simp only [Z4.f,Z4.l0]
  by_cases hl:(0:Int)<(l.length:Int)
  ·simp only [if_pos hl]
   have hB:=specBridgeOk_ev id l h;rw [hok] at hB
   exact Ev.bind hB hj
  ·simp only [if_neg hl]
   exact hj
 | true =>
  simp only [if_true];refine ev_list l (fun k (b:Int) i=>Z4.l0 k b i id l) (fun b t=>(rootM id l b t,decide (rootM id l b t ≥ 0))) (fun _ b=>BestOk l b)
   (fun b hb=>?_) (fun i b x t hb hi hd hx ih=>?_) (-1) (Or.inl rfl)
  ·refine Ev.stepUp ?_
   simp only [Z4.l0,if_neg (show ¬ (l.length:Int)<(l.length:Int) by omega)]
   exact ev_end fun k=>by simp [Z4.j1,rootM]
  ·refine Ev.stepUp ?_
   simp only [Z4.l0,if_pos (show (i:Int)<(l.length:Int) by omega)]
   have hB:=specBridgeOk_ev id l h;rw [hok] at hB
   refine Ev.bind hB ?_;have hn:=ih _ (stepR_ok id l b i x hb hi);have e:rootM id l b (x :: t)=rootM id l (stepR id l b i x) t:=by simp only [rootM,drop_at hd hi]
   rw [e]
   have hj:=specRootJ id l b i x hb hi h _ hn;refine Ev.step (fun k=>?_) hj
   simp only [Z4.j1,if_true,if_pos (show 0≤(i:Int) by omega),if_pos (show (i:Int)<(l.length:Int) by omega),rdPB hx,skipP]
   cases x.f1 with
   | false=>simp
   | true =>
    simp only [if_true,Bool.not_true,Bool.false_or]
    by_cases c1:x.f2.f2=id
    ·simp [c1]
    ·by_cases c2:x.f2.f0 ≥ id
     ·simp [c1,c2]
     ·by_cases c3:x.f2.f1 ≥ 20
      ·simp [c1,c2,c3]
      ·simp only [c1,c2,c3,if_false,decide_false,Bool.false_or]
theorem specOwn_ev (id:Int) (l:List PB) (p:Int) (h:l.length≤4194304):Ev (fun k=>Z26.f k id l p) (ownX id l p):=by
 simp only [Z26.f];refine Ev.bind (specBridgeOk_ev id l h) ?_;have jt:Ev (fun k=>Z26.j0 k p true id l) (0,0,0,0):=ev_end fun k=>by simp [Z26.j0]
 unfold ownX
 cases hok:bridgeOk id l with
 | false=>simp only [Bool.false_eq_true,if_false,false_and];exact jt
 | true =>
  simp only [if_true,l1In_eq,Option.bind_some,true_and];rw [w64 (by omega) (by omega)]
  by_cases hp:0≤p∧p≤(l.length:Int) - 1
  ·simp only [hp,and_self,decide_true,Bool.not_true,if_true]
   refine Ev.stepUp ?_;simp only [Z26.j0,Bool.false_eq_true,if_false];have hR:=specRootPort_ev id l h;rw [hok] at hR
   simp only [if_true] at hR;refine Ev.bind hR ?_;unfold ownM
   by_cases h0:rootM id l (-1) l ≥ 0
   ·have h1:=root_lt id l h0
    simp only [h0,decide_true,if_true];simp only [if_pos (show 0≤rootM id l (-1) l from h0),if_pos h1];exact ev_some fun _=>rfl
   ·simp only [h0,decide_false,Bool.false_eq_true,if_false]
    exact ev_some fun _=>rfl
  ·simp only [hp,decide_false,Bool.not_false,if_false]
   exact jt
theorem l8Copy_eq (id:Int) (l:List PB) (h:l.length≤4194304):Z46.f id l=some (id,l):=by
 simp only [Z46.f,Option.bind_some,List.length_nil,Nat.zero_add,List.nil_append];rw [if_pos (by omega)]
theorem ownX_in {id:Int} {l:List PB} (hok:bridgeOk id l=true) {i:Nat} (hi:i<l.length):ownX id l i=ownM id l i:=by
 unfold ownX
 rw [if_pos ⟨hok,by omega,by omega⟩]
theorem specDecide_ev (id:Int) (l:List PB) (h:l.length≤4194304):Ev (fun k=>Z6.f k id l) (id,if bridgeOk id l=true then decM id l else l):=by
 simp only [Z6.f,l8Copy_eq id l h,Option.bind_some];refine Ev.bind (specBridgeOk_ev id l h) ?_;have hR:=specRootPort_ev id l h;cases hok:bridgeOk id l with
 | false=>simp only [Bool.false_eq_true,if_false];exact ev_some fun _=>rfl
 | true =>
  rw [hok] at hR
  simp only [if_true] at hR ⊢;refine Ev.bind hR ?_;have hM:=decM_length id l;refine ev_list l (fun k (cur:List PB) i=>Z6.l0 k (rootM id l (-1) l) i id l id cur) (fun _ _=>(id,decM id l)) (fun i cur=>cur=(decM id l).take i++l.drop i)
   (fun cur hc=>?_) (fun i cur x t hc hi hd hx ih=>?_) l (by simp)
  ·subst hc
   refine ev_end fun k=>?_
   simp only [Z6.l0,if_neg (show ¬ (l.length:Int)<(l.length:Int) by omega)]
   rw [← hM,List.take_length,hM,List.drop_length,List.append_nil]
  ·subst hc
   have hln:((decM id l).take i++l.drop i).length=l.length:=turned_length hM (by omega)
   have hat:=turned_at hM hx;have hnx:=turned_next hM (decM_get (id:=id) hx);generalize (decM id l).take i++l.drop i=cur at hat hln hnx ⊢
   have hih:=ih _ rfl;have hrd:=rdPB hx;have hdn:x.f0=false→Ev (fun k=>Z6.l0 k (rootM id l (-1) l) ((i+1:Nat):Int) id l id cur) (id,decM id l):=by
    intro hu;have e:decP id l i x=x:=by simp [decP,hu]
    rw [e] at hnx
    have e2:cur.set i x=cur:=by
     apply List.ext_getElem?
     intro j
     by_cases hj:i=j
     ·subst hj
      rw [List.getElem?_set_self (by omega),hat]
     ·rw [List.getElem?_set_ne hj]
    rw [e2] at hnx
    rw [hnx]
    exact hih
   have jt:∀ ro:Int,decP id l i x=ofP (turnM (pprt x) ro)→Ev (fun k=>(Z17.f k x.f0 x.f1 x.f2.f0 x.f2.f1 x.f2.f2 x.f2.f3 x.f3 x.f4 x.f5 x.f6 x.f7 ro).bind fun bt=>Z6.l0 k (rootM id l (-1) l) ((i+1:Nat):Int) id l id (cur.set i (⟨bt.1,bt.2.1,⟨bt.2.2.1,bt.2.2.2.1,bt.2.2.2.2.1,bt.2.2.2.2.2.1⟩,bt.2.2.2.2.2.2.1,bt.2.2.2.2.2.2.2.1,bt.2.2.2.2.2.2.2.2.1,bt.2.2.2.2.2.2.2.2.2.1,bt.2.2.2.2.2.2.2.2.2.2⟩:PB))) (id,decM id l):=by
    intro ro hro;refine Ev.bind (specTurn_ev _ _ _ _ _ _ _ _ _ _ _ _) ?_;rw [hro] at hnx
    have e:(cur.set i (ofP (turnM (pprt x) ro)))=(decM id l).take (i+1)++l.drop (i+1):=hnx;simp only [ofP,pprt] at e;simp only [Prt.tup];rw [e]
    exact hih
   have hd1:x.f0=true→∀ ro,roleM id l i x=ro→decP id l i x=ofP (turnM (pprt x) ro):=fun hu ro hro=>by simp [decP,hu,hro]
   refine Ev.stepUp ?_;simp only [Z6.l0,if_pos (show (i:Int)<(l.length:Int) by omega),if_pos (show 0≤(i:Int) by omega),hln,hrd,w64_succ (show (i:Int)<4611686018427387904 by omega),Int.toNat_natCast]
   by_cases hr:(i:Int)=rootM id l (-1) l
   ·simp only [if_pos hr]
    cases hu:x.f0 with
    | false=>simp only [Bool.false_eq_true,if_false];exact hdn hu
    | true =>
     simp only [if_true];have:=jt 1 (hd1 hu 1 (by simp [roleM,hr]))
     rw [hu] at this
     exact this
   ·simp only [if_neg hr]
    have j3:∀ (b:Bool),(x.f1 && better x.f2.f0 x.f2.f1 x.f2.f2 x.f2.f3 (ownM id l i).1 (ownM id l i).2.1 (ownM id l i).2.2.1 (ownM id l i).2.2.2)=b→Ev (fun k=>Z6.j1 k (rootM id l (-1) l) (i:Int) 2 b id l id cur x.f0 x.f1 x.f2.f0 x.f2.f1 x.f2.f2 x.f2.f3 x.f3 x.f4 x.f5 x.f6 x.f7) (id,decM id l):=by
     intro b hb;refine Ev.stepUp ?_;simp only [Z6.j1,if_pos (show (i:Int)<(l.length:Int) by omega),if_pos (show 0≤(i:Int) by omega),hln,w64_succ (show (i:Int)<4611686018427387904 by omega),Int.toNat_natCast]
     cases hu:x.f0 with
     | false =>
      simp only [Bool.false_eq_true,if_false]
      split <;> exact hdn hu
     | true =>
      simp only [if_true];rw [hu] at jt
      cases b with
      | true =>
       simp only [if_true];exact jt 3 (hd1 hu 3 (by simp [roleM,hr,hb]))
      | false =>
       simp only [Bool.false_eq_true,if_false];exact jt 2 (hd1 hu 2 (by simp only [roleM,if_neg hr,hb];rfl))
    cases hh:x.f1 with
    | false =>
     simp only [Bool.false_eq_true,if_false];have:=j3 false (by simp [hh])
     rw [hh] at this
     exact this
    | true =>
     simp only [if_true];refine Ev.bind (specOwn_ev id l i h) ?_;rw [ownX_in hok hi]
     simp only [specBetter_eq,Option.bind_some];have:=j3 _ rfl;rw [hh,Bool.true_and] at this
     exact this
theorem specClaim_ev (up has:Bool) (r c b p hops left role wait:Int) (op:Bool) (r' c' b' p' h':Int):Ev (fun k=>Z34.f k up has r c b p hops left role wait op r' c' b' p' h') (claimM ⟨up,has,r,c,b,p,hops,left,role,wait,op⟩ r' c' b' p' h').tup:=by
 refine Ev.bind (specPortOk_ev up has r c b p hops left role wait op) ?_;generalize hp:portOk ⟨up,has,r,c,b,p,hops,left,role,wait,op⟩=po
 refine ev_end fun k=>?_
 simp only [Z34.j0,specVecOk_eq,l1In_eq,specBetter_eq,Option.bind_some,claimM,hp,Prt.tup];cases po
 ·simp
 ·cases up
  ·simp
  ·cases vecOk r' c' b' p'
   ·simp
   ·by_cases hh:0≤h'∧h'≤8
    ·cases has
     ·simp [hh]
     ·cases better r c b p r' c' b' p'
      ·simp [hh]
      ·by_cases e1:b=b' <;> by_cases e2:p=p' <;> simp [hh,e1,e2]
    ·simp [hh]
theorem specFade_ev (up has:Bool) (r c b p hops left role wait:Int) (op:Bool):Ev (fun k=>Z39.f k up has r c b p hops left role wait op) (fadeM ⟨up,has,r,c,b,p,hops,left,role,wait,op⟩).tup:=by
 refine Ev.bind (specPortOk_ev up has r c b p hops left role wait op) ?_;generalize hp:portOk ⟨up,has,r,c,b,p,hops,left,role,wait,op⟩=po
 refine ev_end fun k=>?_
 cases po
 ·simp [Z39.j0,fadeM,hp,Prt.tup]
 ·cases has
  ·simp [Z39.j0,fadeM,hp,Prt.tup]
  ·have:=portOk_left _ hp rfl
   dsimp only at this;simp only [Z39.j0,fadeM,hp,Prt.tup];rw [w64 (by omega) (by omega)]
   by_cases e:left - 1=0 <;> simp [e]
theorem specInOk_eq (k p r c b q h:Int) (u:Bool):Z63.f k p r c b q h u=some (inOk k p r c b q h u):=by
 simp only [Z63.f,l1In_eq,specVecOk_eq,Option.bind_some,inOk]
 by_cases h1:k=1
 ·simp only [h1,if_true]
  by_cases a1:0≤p∧p≤3 <;> by_cases a3:0≤h∧h≤8 <;> cases vecOk r c b q <;> simp [a1,a3]
 ·by_cases h3:k=3
  ·by_cases a1:0≤p <;> by_cases a2:p≤3 <;> by_cases r0:r=0 <;> by_cases c0:c=0 <;> by_cases b0:b=0 <;> by_cases q0:q=0 <;> by_cases hh:h=0 <;> simp_all
   all_goals ((split <;> simp <;> omega))
  ·by_cases h2:k=2
   ·by_cases p0:p=0 <;> by_cases r0:r=0 <;> by_cases c0:c=0 <;> by_cases b0:b=0 <;> by_cases q0:q=0 <;> by_cases hh:h=0 <;> cases u <;> simp_all
   ·simp [h1,h2,h3]
theorem specHops_ev (id:Int) (l:List PB) (h:l.length≤4194304):Ev (fun k=>Z65.f k id l) (if bridgeOk id l=true then hopsM id l else 0):=by
 simp only [Z65.f];refine Ev.bind (specRootPort_ev id l h) ?_;cases bridgeOk id l with
 | false=>simp only [Bool.false_eq_true,if_false];exact ev_some fun _=>rfl
 | true =>
  simp only [if_true];unfold hopsM
  by_cases h0:rootM id l (-1) l ≥ 0
  ·simp only [h0,decide_true,if_true]
   have h1:=root_lt id l h0;simp only [if_pos (show 0≤rootM id l (-1) l from h0),if_pos h1];exact ev_some fun _=>rfl
  ·simp only [h0,decide_false,Bool.false_eq_true,if_false]
   exact ev_some fun _=>rfl
theorem Ev.succ {α:Type} {g:Nat→Option α} {r:α} (h:Ev (fun k=>g (k+1)) r):Ev g r:=Ev.step (fun _=>rfl) h
theorem and_range (x:Int) (m:Nat) (hm:m<2 ^ 62):0≤Go.bits .and .i64 x (m:Int)∧Go.bits .and .i64 x (m:Int)≤m:=by
 have e:Go.bits .and .i64 x (m:Int)=IntKind.i64.wrap (((BitVec.ofInt 64 x) &&& (BitVec.ofInt 64 (m:Int))).toNat:Int):=rfl;have h1:((BitVec.ofInt 64 x) &&& (BitVec.ofInt 64 (m:Int))).toNat≤m:=by
  rw [BitVec.toNat_and,BitVec.ofInt_natCast,BitVec.toNat_ofNat,Nat.mod_eq_of_lt (by omega)]
  exact Nat.and_le_right
 rw [e,IntKind.wrap_i64]
 omega
theorem and_255_range (x:Int):0≤Go.bits .and .i64 x 255∧Go.bits .and .i64 x 255≤255:=and_range x 255 (by decide)
def CurOk (b:List Int) (i:Int):Prop:=0≤i∧i≤b.length∧b.length≤4194304
def EvP {α:Type} (g:Nat→Option α) (P:α→Prop):Prop:=∃ r,Ev g r∧P r
theorem EvP.bind {α β:Type} {c:Nat→Option α} {f:Nat→α→Option β} {Q:α→Prop} {P:β→Prop} (h:EvP c Q) (hf:∀ a,Q a→EvP (fun k=>f k a) P):EvP (fun k=>(c k).bind (f k)) P:=by
 obtain ⟨a,ha,hq⟩:=h;obtain ⟨r,hr,hp⟩:=hf a hq;exact ⟨r,Ev.bind ha hr,hp⟩
theorem EvP.now {α:Type} {P:α→Prop} (r:α) (h:P r):EvP (fun _=>some r) P:=⟨r,Ev.now r,h⟩
theorem EvP.of {α:Type} {g:Nat→Option α} {P:α→Prop} {r:α} (h:Ev g r) (hp:P r):EvP g P:=⟨r,h,hp⟩
theorem EvP.imp {α:Type} {g:Nat→Option α} {P Q:α→Prop} (h:EvP g P) (hi:∀ r,P r→Q r):EvP g Q:=by
 obtain ⟨r,hr,hp⟩:=h;exact ⟨r,hr,hi r hp⟩
theorem EvP.succ {α:Type} {g:Nat→Option α} {P:α→Prop} (h:EvP (fun k=>g (k+1)) P):EvP g P:=by
 obtain ⟨r,hr,hp⟩:=h;exact ⟨r,Ev.succ hr,hp⟩
theorem specTick_ev (q:Prt):Ev (fun k=>Z20.f k q.up q.has q.r q.c q.b q.p q.hops q.left q.role q.wait q.op) (tickM q).tup:=by
 simp only [Z20.f];refine Ev.bind (specFade_ev _ _ _ _ _ _ _ _ _ _ _) ?_
 show Ev _ (tickM q).tup
 unfold tickM
 generalize fadeM q=f
 obtain ⟨f0,f1,f2,f3,f4,f5,f6,f7,f8,f9,f10⟩:=f;have j1:∀ w:Int,Ev (fun k=>Z20.j1 k f0 f1 f2 f3 f4 f5 f6 f7 f8 w f10) (f0,f1,f2,f3,f4,f5,f6,f7,f8,w,openBy f8 w):=fun w=>ev_end fun k=>by
  simp only [Z20.j1,l7Open_eq,Option.bind_some]
 have j0:∀ (w:Int) (b:Bool),Ev (fun k=>Z20.j0 k b f0 f1 f2 f3 f4 f5 f6 f7 f8 w f10) (if b=true then (f0,f1,f2,f3,f4,f5,f6,f7,f8,wrap64 (w - 1),openBy f8 (wrap64 (w - 1))) else (f0,f1,f2,f3,f4,f5,f6,f7,f8,w,openBy f8 w)):=by
  intro w b;refine Ev.stepUp ?_;simp only [Z20.j0];cases b
  ·simp only [Bool.false_eq_true,if_false];exact j1 w
  ·simp only [if_true];exact j1 _
 simp only [Prt.tup]
 by_cases h1:f8=1
 ·subst h1
  have:=j0 f9 (decide (f9 > 0))
  by_cases h9:f9 > 0 <;> simp [h9] at this ⊢ <;> exact this
 ·by_cases h2:f8=2
  ·subst h2
   have:=j0 f9 (decide (f9 > 0))
   by_cases h9:f9 > 0 <;> simp [h9] at this ⊢ <;> exact this
  ·have:=j0 f9 false
   simp [h1,h2] at this ⊢
   exact this
theorem specIn_ev (id:Int) (l:List PB) (kind port r c b p h:Int) (up:Bool) (hok:bridgeOk id l=true) (hx:inOk kind port r c b p h up=true) (hp:port<(l.length:Int)):Ev (fun k=>Z5.f k id l kind port r c b p h up) (id,inM id l kind port r c b p h up):=by
 obtain ⟨hk,h0⟩:=inOk_kind hx;have hln:=bridgeOk_len hok;have hd:∀ m:List PB,bridgeOk id m=true→Ev (fun k=>Z5.j1 k id m) (id,decM id m):=by
  intro m hm;refine Ev.stepUp ?_;simp only [Z5.j1];have:=specDecide_ev id m (by have:=bridgeOk_len hm;omega)
  rw [hm] at this
  exact Ev.bind this (ev_some fun _=>rfl)
 have hxl:l[port.toNat]?=some l[port.toNat]:=List.getElem?_eq_getElem (by omega)
 have e:((port.toNat:Nat):Int)=port:=by omega
 have hr:=rdPB hxl;rw [e] at hr
 have hpt:=bridgeOk_ports hok hxl;simp only [Z5.f,if_pos h0,if_pos hp,hr];unfold inM
 rw [hr]
 by_cases k1:kind=1
 ·simp only [if_pos k1]
  refine Ev.bind (specClaim_ev _ _ _ _ _ _ _ _ _ _ _ _ _ _ _ _) ?_;exact hd _ (bridgeOk_set hok (x:=ofP (claimM (pprt l[port.toNat]) r c b p h)) (claimM_ok' _ _ _ _ _ _ hpt))
 simp only [if_neg k1]
 by_cases k2:kind=2
 ·simp only [if_pos k2]
  have hM:(l.map tickP).length=l.length:=by simp
  refine ev_list l (fun k (cur:List PB) i=>Z5.l0 k i id cur) (fun _ _=>(id,decM id (l.map tickP))) (fun i cur=>cur=(l.map tickP).take i++l.drop i)
   (fun cur hc=>?_) (fun i cur x t hc hi hdr hxi ih=>?_) l (by simp)
  ·subst hc
   refine Ev.stepUp ?_;rw [← hM,List.take_length,hM,List.drop_length,List.append_nil]
   simp only [Z5.l0,hM,if_neg (show ¬ (l.length:Int)<(l.length:Int) by omega)]
   exact hd _ (bridgeOk_map hok fun x hx=>by rw [tickP,pprt_ofP];exact tickM_ok _ hx)
  ·subst hc
   have hln2:=turned_length hM (Nat.le_of_lt hi);have hat:=turned_at hM hxi;have hnx:=turned_next hM (show (l.map tickP)[i]?=some (tickP x) by simp [hxi])
   generalize (l.map tickP).take i++l.drop i=cur at hat hln2 hnx ⊢
   have hih:=ih _ rfl;refine Ev.stepUp ?_;simp only [Z5.l0,hln2,if_pos (show (i:Int)<(l.length:Int) by omega),if_pos (show 0≤(i:Int) by omega),rdPB hat,w64_succ (show (i:Int)<4611686018427387904 by omega),Int.toNat_natCast]
   refine Ev.bind (specTick_ev (pprt x)) ?_;rw [← hnx] at hih
   exact hih
 simp only [if_neg k2];have k3:kind=3:=by omega
 simp only [if_pos k3]
 by_cases hu:l[port.toNat].f0=up
 ·simp only [hu,beq_self_eq_true,if_true]
  exact ev_some fun _=>rfl
 ·have hb:(l[port.toNat].f0 == up)=false:=by simpa using hu
  simp only [hb,Bool.false_eq_true,if_false,if_neg hu,Option.bind_some];have hl:=hd _ (bridgeOk_set (i:=port.toNat) hok (linkP_ok up));cases up with
  | false =>
   simp only [Bool.false_eq_true,if_false];exact hl
  | true =>
   simp only [if_true,List.set_set];exact hl
theorem specReact_ev (id:Int) (l:List PB) (kind port r c b p h:Int) (up:Bool) (hl:l.length≤4194304):Ev (fun k=>Z1.f k id l kind port r c b p h up) (reactM id l kind port r c b p h up):=by
 simp only [Z1.f,Option.bind_some,specInOk_eq];refine Ev.bind (specBridgeOk_ev id l hl) ?_;have jno:reactOk id l kind port r c b p h up=false→Ev (fun k=>Z1.j0 k [] true id l kind port r c b p h up) (reactM id l kind port r c b p h up):=by
  intro hno;unfold reactM
  rw [hno]
  refine ev_end fun k=>?_
  simp only [Z1.j0,if_true,l8Copy_eq id l hl,Option.bind_some,Bool.false_eq_true,if_false]
 cases hok:bridgeOk id l with
 | false =>
  simp only [Bool.false_eq_true,if_false];exact jno (by simp [reactOk,hok])
 | true =>
 simp only [if_true];cases hx:inOk kind port r c b p h up with
 | false =>
  simp only [Bool.false_eq_true,if_false];exact jno (by simp [reactOk,hx])
 | true =>
 simp only [if_true]
 by_cases hp:port ≥ (l.length:Int)
 ·simp only [hp,decide_true]
  exact jno (by simp [reactOk,hp])
 simp only [hp,decide_false];have hp':port<(l.length:Int):=by omega
 have hR:reactOk id l kind port r c b p h up=true:=by simp [reactOk,hok,hx,hp']
 obtain ⟨hk,h0⟩:=inOk_kind hx;have hln:=bridgeOk_len hok;unfold reactM
 simp only [if_pos hR];refine Ev.stepUp ?_;simp only [Z1.j0,Bool.false_eq_true,if_false,l8Copy_eq id l hl,Option.bind_some];refine Ev.bind (specIn_ev id l kind port r c b p h up hok hx hp') ?_;have hiok:=inM_ok hok kind port r c b p h up h0 hp';have hil:=inM_length id l kind port r c b p h up;generalize inM id l kind port r c b p h up=m at hiok hil ⊢
 dsimp only;obtain ⟨fin,hfin⟩:∃ fin:List OB→List OB,fin=fun g=>if kind=2 then sayAcc id m g 0 m else g:=⟨_,rfl⟩
 have l1:∀ acc:List OB,acc.length≤l.length→Ev (fun k=>Z1.l1 k acc 0 kind port r c b p h up id m) (id,m,fin acc):=by
  intro acc hacc;subst hfin
  by_cases k2:kind=2
  ·simp only [if_pos k2]
   rw [← Nat.sub_self m.length]
   refine ev_list m (fun k (a:List OB) i=>Z1.l1 k a i kind port r c b p h up id m) (fun a t=>(id,m,sayAcc id m a (m.length - t.length) t)) (fun i a=>a.length≤l.length+i)
    (fun a ha=>?_) (fun i a x t ha hi hd hxi ih=>?_) acc (by omega)
   ·refine Ev.stepUp ?_
    simp only [Z1.l1,if_neg (show ¬ (m.length:Int)<(m.length:Int) by omega)]
    exact ev_end fun k=>by simp [Z1.j3,sayAcc]
   ·have e1:m.length - (x :: t).length=i:=drop_at hd hi
    have e2:m.length - t.length=i+1:=by
     have:=congrArg List.length hd;simp at this
     omega
    simp only [e1,sayAcc];refine Ev.stepUp ?_;simp only [Z1.l1,if_pos (show (i:Int)<(m.length:Int) by omega)]
    refine Ev.stepUp ?_;simp only [Z1.j3,k2,beq_self_eq_true,if_true,if_pos (show (i:Int)<(m.length:Int) by omega),if_pos (show 0≤(i:Int) by omega),rdPB hxi]
    by_cases h5:x.f5=2
    ·simp only [if_pos h5]
     refine Ev.bind (specOwn_ev id m i (by omega)) ?_
     have hh:=specHops_ev id m (by omega)
     rw [hiok] at hh
     refine Ev.bind hh ?_;simp only [if_pos (show a.length<2199023255552 by omega),w64_succ (show (i:Int)<4611686018427387904 by omega),ownX_in hiok hi]
     have:=ih (a++[(⟨1,(i:Int),⟨(ownM id m i).1,(ownM id m i).2.1,(ownM id m i).2.2.1,(ownM id m i).2.2.2⟩,hopsM id m,false⟩:OB)]) (by simp;omega)
     rw [e2,k2] at this
     exact this
    ·simp only [if_neg h5,w64_succ (show (i:Int)<4611686018427387904 by omega)]
     have:=ih a (by omega)
     rw [e2,k2] at this
     exact this
  ·simp only [if_neg k2]
   refine Ev.stepUp ?_;have hk2:(kind == 2)=false:=by simpa using k2
   simp only [Z1.l1,if_pos (show (0:Int)<(m.length:Int) by omega),hk2]
   exact ev_end fun k=>by simp [Z1.j3]
 have efin:outsM id l m kind=fin (gateAcc l [] 0 m):=by subst hfin;rfl
 rw [efin]
 clear hfin efin;rw [← Nat.sub_self m.length]
 refine ev_list m (fun k (a:List OB) i=>Z1.l0 k a i id l kind port r c b p h up id m) (fun a t=>(id,m,fin (gateAcc l a (m.length - t.length) t))) (fun i a=>a.length≤i)
  (fun a ha=>?_) (fun i a x t ha hi hd hxi ih=>?_) [] (by simp)
 ·refine Ev.stepUp ?_
  simp only [Z1.l0,hil,if_neg (show ¬ (l.length:Int)<(l.length:Int) by omega)]
  exact l1 a (by omega)
 ·have e1:m.length - (x :: t).length=i:=drop_at hd hi
  have e2:m.length - t.length=i+1:=by
   have:=congrArg List.length hd;simp at this
   omega
  simp only [e1,gateAcc];refine Ev.stepUp ?_;simp only [Z1.l0,if_pos (show (i:Int)<(l.length:Int) by omega),if_pos (show (i:Int)<(m.length:Int) by omega),if_pos (show 0≤(i:Int) by omega),rdPB hxi]
  cases h7:(x.f7 != (rd_T102 l (i:Int)).f7) with
  | true =>
   simp only [if_true,if_pos (show a.length<2199023255552 by omega),w64_succ (show (i:Int)<4611686018427387904 by omega)]
   have:=ih (a++[(⟨2,(i:Int),⟨0,0,0,0⟩,0,x.f7⟩:OB)]) (by simp;omega)
   rw [e2] at this
   exact this
  | false =>
   simp only [Bool.false_eq_true,if_false,w64_succ (show (i:Int)<4611686018427387904 by omega)]
   have:=ih a (by omega)
   rw [e2] at this
   exact this
def zport:PB:=⟨false,false,⟨0,0,0,0⟩,0,0,0,0,false⟩
def bridgeNewM (id n:Int):Int × List PB × Bool:=if 1≤id∧id≤9∧1≤n∧n≤4 then (id,List.replicate n.toNat zport,true) else (0,[],false)
theorem zports_ok (n:Nat):portsOk (List.replicate n zport)=true:=by
 rw [portsOk_iff]
 intro x hx;rw [List.eq_of_mem_replicate hx]
 decide
theorem l1Min_eq (a b:Int):Z74.f a b=some (min a b):=by
 simp only [Z74.f]
 split <;> congr 1 <;> omega
theorem specBridgeNew_ev (id n:Int):Ev (fun k=>Z35.f k id n) (bridgeNewM id n):=by
 have key:∀ (d i:Nat),i+d=(min n 5).toNat→Ev (fun k=>Z35.l0 k n (i:Int) id (List.replicate i zport)) (bridgeNewM id n):=by
  intro d
  induction d with
  | zero =>
   intro i hi;refine Ev.step (f:=fun k=>(Z11.f k id (List.replicate i zport)).bind fun t140=>(if t140=true then (some (id,List.replicate i zport,true)) else (some (0,[],false)))) (fun k=>?_) (Ev.bind (specBridgeOk_ev id _ (by simp;omega)) (ev_some fun k=>?_))
   ·simp only [Z35.l0,l1Min_eq,Option.bind_some]
    rw [if_neg (by omega)]
   ·have hz:=zports_ok i
    simp only [bridgeOk,hz,Bool.true_and,List.length_replicate,bridgeNewM]
    by_cases a:1≤id∧id≤9
    ·by_cases b:1≤n∧n≤4
     ·have e:i=n.toNat:=by omega
      have e1:1≤i∧i≤4:=by omega
      simp [a,b,e1,← e]
     ·have e1:¬ (1≤i∧i≤4):=by omega
      have e2:¬ (1≤id∧id≤9∧1≤n∧n≤4):=by omega
      simp [e1,e2]
    ·have e2:¬ (1≤id∧id≤9∧1≤n∧n≤4):=by omega
     simp [a,e2]
  | succ d ih =>
   intro i hi;refine Ev.step (fun k=>?_) (ih (i+1) (by omega))
   simp only [Z35.l0,l1Min_eq,Option.bind_some];rw [if_pos (by omega),if_pos (by simp;omega),w64_succ (by omega),List.replicate_succ']
   rfl
 have:=key (min n 5).toNat 0 (by omega)
 simpa [Z35.f] using this
theorem l1Byte_some (b:List Int) (i q:Int) (h:CurOk b i):∃ r i' q',Z53.f b i q=some (r,i',q')∧CurOk b i'∧0≤r∧r≤255:=by
 obtain ⟨h0,h1,h2⟩:=h;simp only [Z53.f]
 by_cases hi:i<(b.length:Int)
 ·rw [if_pos hi,if_pos h0]
  refine ⟨_,_,_,rfl,⟨?_,?_,h2⟩,(and_255_range _).1,(and_255_range _).2⟩ <;> rw [w64 (by omega) (by omega)] <;> omega
 ·rw [if_neg hi]
  exact ⟨_,_,_,rfl,⟨h0,h1,h2⟩,(and_255_range _).1,(and_255_range _).2⟩
theorem l1Below_some (b:List Int) (i q n:Int) (h:CurOk b i):∃ r i' q',Z3.f b i q n=some (r,i',q')∧CurOk b i'∧0≤r∧(0<n→r<n):=by
 simp only [Z3.f]
 by_cases h0:n≤0
 ·rw [if_pos h0]
  exact ⟨_,_,_,rfl,h,by omega,by omega⟩
 ·rw [if_neg h0]
  obtain ⟨r1,i1,q1,e1,c1,a1,b1⟩:=l1Byte_some b i q h
  by_cases h2:n≤256
  ·rw [if_pos h2,e1]
   simp only [Option.bind_some];rw [if_neg (by omega),Int.tmod_eq_emod_of_nonneg a1]
   exact ⟨_,_,_,rfl,c1,Int.emod_nonneg _ (by omega),fun _=>Int.emod_lt_of_pos _ (by omega)⟩
  ·obtain ⟨r2,i2,q2,e2,c2,a2,b2⟩:=l1Byte_some b i1 q1 c1
   obtain ⟨r3,i3,q3,e3,c3,a3,b3⟩:=l1Byte_some b i2 q2 c2;obtain ⟨r4,i4,q4,e4,c4,a4,b4⟩:=l1Byte_some b i3 q3 c3;rw [if_neg h2,e1]
   simp only [Option.bind_some,e2,e3,e4];rw [if_neg (by omega),w64 (x:=r1*16777216) (by omega) (by omega),w64 (x:=r2*65536) (by omega) (by omega),w64 (x:=r3*256) (by omega) (by omega),w64 (x:=r1*16777216+r2*65536) (by omega) (by omega),w64 (x:=r1*16777216+r2*65536+r3*256) (by omega) (by omega),w64 (by omega) (by omega),Int.tmod_eq_emod_of_nonneg (by omega)]
   exact ⟨_,_,_,rfl,c4,Int.emod_nonneg _ (by omega),fun _=>Int.emod_lt_of_pos _ (by omega)⟩
theorem l1Below_evp (b:List Int) (i q n:Int) (h:CurOk b i):EvP (fun _=>Z3.f b i q n) (fun r=>CurOk b r.2.1∧0≤r.1∧(0<n→r.1<n)):=by
 obtain ⟨r,i',q',e,c,h0,h1⟩:=l1Below_some b i q n h;exact ⟨(r,i',q'),ev_some fun _=>e,c,h0,h1⟩
theorem l1PickInt_some (b:List Int) (i q:Int) (l:List Int) (h:CurOk b i) (hl:0<l.length):∃ r i' q',Z18.f b i q l=some (r,i',q')∧CurOk b i'∧r∈l:=by
 obtain ⟨r,i',q',e,c,h0,h1⟩:=l1Below_some b i q l.length h;have h1:=h1 (by omega)
 obtain ⟨n,rfl⟩:=Int.eq_ofNat_of_zero_le h0;refine ⟨l[n]'(by omega),i',q',?_,c,List.getElem_mem _⟩
 simp only [Z18.f,e,Option.bind_some];rw [if_pos h0,if_pos h1,rd_at (List.getElem?_eq_getElem (by omega))]
theorem l1PickInt_evp (b:List Int) (i q:Int) (l:List Int) (h:CurOk b i) (hl:0<l.length):EvP (fun _=>Z18.f b i q l) (fun r=>CurOk b r.2.1∧r.1∈l):=by
 obtain ⟨r,i',q',e,c,hm⟩:=l1PickInt_some b i q l h hl;exact ⟨(r,i',q'),ev_some fun _=>e,c,hm⟩
def Small (x:Int):Prop:=-100≤x∧x≤100
theorem l6DrawRight_some (b:List Int) (i q:Int) (h:CurOk b i):∃ v0 v1 v2 v3 i' q',Z69.f b i q=some (v0,v1,v2,v3,i',q')∧CurOk b i'∧Small v0∧Small v1∧Small v2∧Small v3:=by
 obtain ⟨r1,i1,q1,e1,c1,a1,b1⟩:=l1Below_some b i q 4 h;obtain ⟨r2,i2,q2,e2,c2,a2,b2⟩:=l1Below_some b i1 q1 4 c1;obtain ⟨r3,i3,q3,e3,c3,a3,b3⟩:=l1Below_some b i2 q2 3 c2;obtain ⟨r4,i4,q4,e4,c4,a4,b4⟩:=l1Below_some b i3 q3 3 c3;have b1:=b1 (by omega)
 have b2:=b2 (by omega)
 have b3:=b3 (by omega)
 have b4:=b4 (by omega)
 simp only [Z69.f,e1,e2,e3,e4,Option.bind_some];rw [w64 (x:=1+r1) (by omega) (by omega),w64 (x:=1+r1+r3) (by omega) (by omega),w64 (x:=1+r4) (by omega) (by omega)]
 split
 ·exact ⟨_,_,_,_,_,_,rfl,c4,⟨by omega,by omega⟩,⟨by omega,by omega⟩,⟨by omega,by omega⟩,⟨by omega,by omega⟩⟩
 ·exact ⟨_,_,_,_,_,_,rfl,c3,⟨by omega,by omega⟩,⟨by omega,by omega⟩,⟨by omega,by omega⟩,⟨by omega,by omega⟩⟩
theorem small_mem {x:Int} {l:List Int} (h:x∈l) (hl:(l.all fun y=>decide (-100≤y∧y≤100))=true):Small x:=by
 have:=List.all_eq_true.1 hl x h
 show -100≤x∧x≤100
 exact of_decide_eq_true (show decide (-100≤x∧x≤100)=true from this)
theorem l6Draw_some (b:List Int) (i q:Int) (h:CurOk b i):∃ v0 v1 v2 v3 i' q',Z76.f b i q=some (v0,v1,v2,v3,i',q')∧CurOk b i'∧Small v0∧Small v1∧Small v2∧Small v3:=by
 obtain ⟨v0,v1,v2,v3,i1,q1,e1,c1,s0,s1,s2,s3⟩:=l6DrawRight_some b i q h;obtain ⟨r,i2,q2,e2,c2,a2,b2⟩:=l1Below_some b i1 q1 10 c1;obtain ⟨x0,j0,p0,f0,d0,m0⟩:=l1PickInt_some b i2 q2 [0,9,10] c2 (by simp)
 obtain ⟨x1,j1,p1,f1,d1,m1⟩:=l1PickInt_some b i2 q2 [-1,0,20,21] c2 (by simp)
 obtain ⟨x3,j3,p3,f3,d3,m3⟩:=l1PickInt_some b i2 q2 [-1,3,4] c2 (by simp)
 have n0:Small x0:=small_mem m0 (by decide)
 have n1:Small x1:=small_mem m1 (by decide)
 have n3:Small x3:=small_mem m3 (by decide)
 simp only [Z76.f,e1,e2,f0,f1,f3,Option.bind_some]
 split
 ·exact ⟨_,_,_,_,_,_,rfl,d0,n0,s1,s2,s3⟩
 split
 ·exact ⟨_,_,_,_,_,_,rfl,d1,s0,n1,s2,s3⟩
 split
 ·exact ⟨_,_,_,_,_,_,rfl,d0,s0,s1,n0,s3⟩
 split
 ·exact ⟨_,_,_,_,_,_,rfl,d3,s0,s1,s2,n3⟩
 ·exact ⟨_,_,_,_,_,_,rfl,c2,s0,s1,s2,s3⟩
theorem Small.in64 {x:Int} (h:Small x):-9223372036854775808≤x∧x≤9223372036854775807:=⟨by have:=h.1;omega,by have:=h.2;omega⟩
theorem l1New_ev (l:List Int) (h:l.length≤4194304):∃ q:Int,Ev (fun k=>Z16.f k l) (l,0,q):=by
 have key:∀ (d i:Nat) (q:Int),i+d=l.length→∃ q':Int,Ev (fun k=>Z16.l0 k l q (i:Int)) (l,0,q'):=by
  intro d
  induction d with
  | zero =>
   intro i q hi;refine ⟨q,ev_end fun k=>?_⟩
   simp only [Z16.l0];rw [if_neg (by omega)]
  | succ d ih =>
   intro i q hi
   by_cases h4:(i:Int)<4000
   ·obtain ⟨q',hq⟩:=ih (i+1) (Go.bits .and .i64 (wrap64 ((wrap64 ((wrap64 (q*131))+(wrap64 (rd l (i:Int)))))+7)) 1073741823) (by omega)
    refine ⟨q',Ev.step (fun k=>?_) hq⟩
    simp only [Z16.l0];rw [if_pos (by omega),if_pos h4,if_pos (by omega),w64_succ (by omega)]
   ·refine ⟨q,ev_end fun k=>?_⟩
    simp only [Z16.l0];rw [if_pos (by omega),if_neg h4]
 exact key l.length 0 _ (by omega)
theorem l1Once_some (b:List Int) (i q n:Int) (h:CurOk b i):∃ r i' q',Z44.f b i q n=some (r,i',q')∧CurOk b i':=by
 obtain ⟨r,i',q',e,c,_⟩:=l1Below_some b i q n h;exact ⟨r == 0,i',q',by simp [Z44.f,e],c⟩
theorem l1Once_evp (b:List Int) (i q n:Int) (h:CurOk b i):EvP (fun _=>Z44.f b i q n) (fun r=>CurOk b r.2.1):=by
 obtain ⟨r,i',q',e,c⟩:=l1Once_some b i q n h;exact ⟨(r,i',q'),ev_some fun _=>e,c⟩
def SmallIn (r:Int × Int × Int × Int × Int × Int × Int × Bool × Int × Int):Prop:=Small r.2.1∧Small r.2.2.1∧Small r.2.2.2.1∧Small r.2.2.2.2.1∧Small r.2.2.2.2.2.1∧Small r.2.2.2.2.2.2.1
theorem small0:Small 0:=⟨by omega,by omega⟩
theorem l8DrawIn_small (b:List Int) (i q:Int) (h:CurOk b i):EvP (fun _=>Z51.f b i q) (fun r=>CurOk b r.2.2.2.2.2.2.2.2.1∧SmallIn r):=by
 simp only [Z51.f];refine EvP.bind (c:=fun _=>Z3.f b i q 4) (l1Below_evp b i q 4 h) (fun r0 h0=>?_)
 have p1:=h0.2.1;have p2:=h0.2.2 (by omega)
 have sp:Small r0.1:=⟨by omega,by omega⟩
 refine EvP.bind (c:=fun _=>Z3.f b r0.2.1 r0.2.2 4) (l1Below_evp b _ _ 4 h0.1) (fun r1 h1=>?_)
 by_cases e0:r1.1=0
 ·simp only [if_pos e0]
  exact EvP.now _ ⟨h1.1,small0,small0,small0,small0,small0,small0⟩
 simp only [if_neg e0]
 by_cases e1:r1.1=1
 ·simp only [if_pos e1]
  refine EvP.bind (c:=fun _=>Z44.f b r1.2.1 r1.2.2 3) (l1Once_evp b _ _ 3 h1.1) (fun r2 h2=>?_)
  exact EvP.now _ ⟨h2,sp,small0,small0,small0,small0,small0⟩
 simp only [if_neg e1];obtain ⟨v0,v1,v2,v3,i',q',e,c2,s0,s1,s2,s3⟩:=l6DrawRight_some b r1.2.1 r1.2.2 h1.1;simp only [e,Option.bind_some];refine EvP.bind (c:=fun _=>Z3.f b i' q' 4) (l1Below_evp b _ _ 4 c2) (fun r3 h3=>?_)
 have d1:=h3.2.1;have d2:=h3.2.2 (by omega)
 have sh:Small r3.1:=⟨by omega,by omega⟩
 exact EvP.now _ ⟨h3.1,sp,s0,s1,s2,s3,sh⟩
theorem l8DrawIn_evp (b:List Int) (i q:Int) (h:CurOk b i):EvP (fun _=>Z51.f b i q) (fun r=>CurOk b r.2.2.2.2.2.2.2.2.1):=(l8DrawIn_small b i q h).imp fun _ hr=>hr.1
theorem l8DrawRight_evp (b:List Int) (i q:Int) (h:CurOk b i):EvP (fun k=>Z15.f k b i q) (fun r=>CurOk b r.2.2.1∧1≤r.2.1.length∧r.2.1.length≤4):=by
 have k1:∀ (d n:Nat) (id:Int) (l:List PB) (i q:Int),n+d=10→CurOk b i→1≤l.length→l.length≤4→EvP (fun k=>Z15.l1 k (n:Int) b i q id l) (fun r=>CurOk b r.2.2.1∧1≤r.2.1.length∧r.2.1.length≤4):=by
  intro d
  induction d with
  | zero =>
   intro n id l i q hn hc hl1 hl4;refine EvP.succ ?_;simp only [Z15.l1];refine EvP.bind (l1Below_evp b i q 10 hc) (fun r hr=>?_)
   have:=hr.2.2 (by omega)
   simp only [if_neg (show ¬ (n:Int)<r.1 by omega)]
   exact EvP.now _ ⟨hr.1,hl1,hl4⟩
  | succ d ih =>
   intro n id l i q hn hc hl1 hl4;refine EvP.succ ?_;simp only [Z15.l1];refine EvP.bind (l1Below_evp b i q 10 hc) (fun r hr=>?_)
   by_cases hlt:(n:Int)<r.1
   ·simp only [if_pos hlt]
    refine EvP.bind (l8DrawIn_evp b _ _ hr.1) (fun r1 h1=>?_)
    have hR:=specReact_ev id l r1.1 r1.2.1 r1.2.2.1 r1.2.2.2.1 r1.2.2.2.2.1 r1.2.2.2.2.2.1 r1.2.2.2.2.2.2.1 r1.2.2.2.2.2.2.2.1 (by omega)
    have hRl:=reactM_length id l r1.1 r1.2.1 r1.2.2.1 r1.2.2.2.1 r1.2.2.2.2.1 r1.2.2.2.2.2.1 r1.2.2.2.2.2.2.1 r1.2.2.2.2.2.2.2.1;refine EvP.bind (EvP.of hR (P:=fun r=>r.2.1.length=l.length) hRl) (fun r2 h2=>?_)
    simp only [w64_succ (show (n:Int)<4611686018427387904 by omega)]
    exact ih (n+1) _ _ _ _ (by omega) h1 (by omega) (by omega)
   ·simp only [if_neg hlt]
    exact EvP.now _ ⟨hr.1,hl1,hl4⟩
 have k0:∀ (L:Nat),1≤L→L≤4→∀ (d n:Nat) (id:Int) (l:List PB) (i q:Int),n+d=L→CurOk b i→l.length=L→EvP (fun k=>Z15.l0 k (n:Int) b i q id l) (fun r=>CurOk b r.2.2.1∧1≤r.2.1.length∧r.2.1.length≤4):=by
  intro L hL1 hL4 d
  induction d with
  | zero =>
   intro n id l i q hn hc hl;refine EvP.succ ?_;simp only [Z15.l0,if_neg (show ¬ (n:Int)<(l.length:Int) by omega)]
   exact k1 10 0 id l i q (by omega) hc (by omega) (by omega)
  | succ d ih =>
   intro n id l i q hn hc hl;refine EvP.succ ?_;simp only [Z15.l0,if_pos (show (n:Int)<(l.length:Int) by omega)]
   refine EvP.bind (l1Once_evp b i q 4 hc) (fun r hr=>?_)
   by_cases e:r.1=true
   ·simp only [if_pos e,w64_succ (show (n:Int)<4611686018427387904 by omega)]
    exact ih (n+1) _ _ _ _ (by omega) hr hl
   ·simp only [if_neg e]
    have hR:=specReact_ev id l 3 (n:Int) 0 0 0 0 0 true (by omega)
    have hRl:=reactM_length id l 3 (n:Int) 0 0 0 0 0 true;refine EvP.bind (EvP.of hR (P:=fun r=>r.2.1.length=l.length) hRl) (fun r2 h2=>?_)
    simp only [w64_succ (show (n:Int)<4611686018427387904 by omega)]
    exact ih (n+1) _ _ _ _ (by omega) hr (by omega)
 simp only [Z15.f];refine EvP.bind (l1Below_evp b i q 6 h) (fun r0 h0=>?_)
 refine EvP.bind (l1Below_evp b _ _ 4 h0.1) (fun r1 h1=>?_)
 have a0:=h0.2.2 (by omega)
 have a1:=h1.2.2 (by omega)
 have b0:=h0.2.1;have b1:=h1.2.1;rw [w64 (by omega) (by omega),w64 (by omega) (by omega)]
 have hN:=specBridgeNew_ev (1+r0.1) (1+r1.1);have e:(bridgeNewM (1+r0.1) (1+r1.1)).2.1.length=(1+r1.1).toNat:=by
  unfold bridgeNewM
  rw [if_pos (by omega)]
  simp
 refine EvP.bind (EvP.of hN (P:=fun r=>r.2.1.length=(1+r1.1).toNat) e) (fun r2 h2=>?_)
 exact k0 (1+r1.1).toNat (by omega) (by omega) (1+r1.1).toNat 0 _ _ _ _ (by omega) h1.1 h2
def sumM (x y:Int):List Int→Int
 | []=>y*65536+x
 | b :: t=>sumM ((x+b) % 65521) ((y+(x+b) % 65521) % 65521) t
def sumOf (l:List Int):Int:=sumM 1 0 l
theorem sumM_range:∀ (l:List Int) (x y:Int),0≤x→x<65521→0≤y→y<65521→0≤sumM x y l∧sumM x y l<4294967296:=by
 intro l
 induction l with
 | nil=>intro x y h0 h1 h2 h3;simp only [sumM];omega
 | cons b t ih=>intro x y h0 h1 h2 h3;simp only [sumM];exact ih _ _ (by omega) (by omega) (by omega) (by omega)
theorem sumOf_range (l:List Int):0≤sumOf l∧sumOf l<4294967296:=sumM_range l 1 0 (by omega) (by omega) (by omega) (by omega)
def four (s:Int):List Int:=[s % 256,s / 256 % 256,s / 65536 % 256,s / 16777216 % 256]
theorem four_bytes (s:Int):∀ x∈four s,0≤x∧x<256:=by
 intro x hx;simp only [four,List.mem_cons,List.not_mem_nil,or_false] at hx;omega
def summedM (l:List Int):List Int:=l++four (sumOf l)
def putM (n:Nat):List Int:=if n > 127 then (((n % 128+128:Nat):Int)) :: putM (n / 128) else [(n:Int)]
termination_by n
decreasing_by omega
theorem putM_bytes (n:Nat):∀ x∈putM n,0≤x∧x<256:=by
 induction n using Nat.strongRecOn with
 | ind n ih =>
  rw [putM]
  split
  ·intro x hx
   rcases List.mem_cons.1 hx with rfl|hx
   ·omega
   ·exact ih (n / 128) (by omega) x hx
  ·intro x hx
   simp at hx
   omega
def putNum (n:Int):List Int:=if 0≤n∧n≤2147483647 then putM n.toNat else []
theorem putM_short (n:Nat) (h:n≤2147483647):(putM n).length≤5:=by
 have h1:∀ m,m≤127→(putM m).length=1:=by
  intro m hm;rw [putM,if_neg (by omega)]
  rfl
 have st:∀ m b c,(∀ m',m'≤b→(putM m').length≤c)→m / 128≤b→(putM m).length≤c+1:=by
  intro m b c hh hm;rw [putM]
  split
  ·have:=hh _ hm
   simp
   omega
  ·simp
 have a1:∀ m,m≤127→(putM m).length≤1:=fun m hm=>by rw [h1 m hm];omega
 have a2:∀ m,m≤16383→(putM m).length≤2:=fun m hm=>st m 127 1 a1 (by omega)
 have a3:∀ m,m≤2097151→(putM m).length≤3:=fun m hm=>st m 16383 2 a2 (by omega)
 have a4:∀ m,m≤268435455→(putM m).length≤4:=fun m hm=>st m 2097151 3 a3 (by omega)
 exact st n 268435455 4 a4 (by omega)
theorem putNum_short (n:Int):(putNum n).length≤5:=by
 unfold putNum
 split
 ·exact putM_short _ (by omega)
 ·simp
theorem putNum_bytes (n:Int):∀ x∈putNum n,0≤x∧x<256:=by
 unfold putNum
 split
 ·exact putM_bytes _
 ·simp
def putNumsM (l:List Int):List Int:=l.flatMap putNum
theorem putNumsM_length (l:List Int):(putNumsM l).length≤5*l.length:=by
 induction l with
 | nil=>simp [putNumsM]
 | cons x t ih =>
  have h1:=putNum_short x;simp only [putNumsM,List.flatMap_cons,List.length_append,List.length_cons] at *;omega
theorem putNumsM_bytes (l:List Int):∀ x∈putNumsM l,0≤x∧x<256:=by
 intro x hx;obtain ⟨n,_,hn⟩:=List.mem_flatMap.1 hx;exact putNum_bytes n x hn
def inBody (k p r c b q h:Int) (u:Bool):List Int:=putNumsM [k,p]++(if k=1 then putNumsM [r,c,b,q,h] else if k=3 then [if u then 1 else 0] else [])
def inBytesM (k p r c b q h:Int) (u:Bool):List Int:=if inOk k p r c b q h u then summedM (inBody k p r c b q h u) else []
theorem inBody_length (k p r c b q h:Int) (u:Bool):(inBody k p r c b q h u).length≤35:=by
 have h1:=putNumsM_length [k,p];have h2:=putNumsM_length [r,c,b,q,h];unfold inBody
 rw [List.length_append]
 simp only [List.length_cons,List.length_nil] at h1 h2
 split
 ·omega
 ·split <;> simp <;> omega
theorem inBody_bytes (k p r c b q h:Int) (u:Bool):∀ x∈inBody k p r c b q h u,0≤x∧x<256:=by
 intro x hx;unfold inBody at hx
 rcases List.mem_append.1 hx with hx|hx
 ·exact putNumsM_bytes _ x hx
 ·split at hx
  ·exact putNumsM_bytes _ x hx
  ·split at hx
   ·simp only [List.mem_cons,List.not_mem_nil,or_false] at hx
    subst hx;cases u <;> simp
   ·simp at hx
theorem inBytesM_length (k p r c b q h:Int) (u:Bool):(inBytesM k p r c b q h u).length≤39:=by
 have:=inBody_length k p r c b q h u;unfold inBytesM
 split
 ·simp [summedM,four]
  omega
 ·simp
theorem inRange_eq (x lo hi:Int):Z33.f x lo hi=some (decide (lo≤x∧x≤hi)):=by
 simp only [Z33.f]
 by_cases h:lo≤x
 ·rw [if_pos h];simp [h]
 ·rw [if_neg h];simp [h]
theorem isPort_eq (x:Int):Z50.f x=some (decide (0≤x∧x≤3)):=by simp [Z50.f,inRange_eq]
theorem implVecOk_eq (r c b p:Int):Z73.f r c b p=some (vecOk r c b p):=by
 simp only [Z73.f,inRange_eq,isPort_eq,Option.bind_some,vecOk]
 by_cases h1:1≤r∧r≤9 <;> by_cases h2:1≤b∧b≤9 <;> by_cases h3:r≤b <;> by_cases h4:0≤c∧c≤20 <;> by_cases h5:0≤p∧p≤3 <;> simp [h1,h2,h3,h4,h5]
 all_goals (omega)
theorem isHops_eq (x:Int):Z75.f x=some (decide (0≤x∧x≤8)):=by simp [Z75.f,inRange_eq]
theorem implInOk_eq (k p r c b q h:Int) (u:Bool):Z49.f k p r c b q h u=some (inOk k p r c b q h u):=by
 simp only [Z49.f,isPort_eq,isHops_eq,implVecOk_eq,Option.bind_some,inOk]
 by_cases h1:k=1
 ·simp only [h1,if_true]
  by_cases a1:0≤p∧p≤3 <;> by_cases a3:0≤h∧h≤8 <;> cases vecOk r c b q <;> simp [a1,a3]
 ·by_cases h3:k=3
  ·by_cases a1:0≤p <;> by_cases a2:p≤3 <;> by_cases r0:r=0 <;> by_cases c0:c=0 <;> by_cases b0:b=0 <;> by_cases q0:q=0 <;> by_cases hh:h=0 <;> simp_all
   all_goals ((split <;> simp <;> omega))
  ·by_cases h2:k=2
   ·by_cases p0:p=0 <;> by_cases r0:r=0 <;> by_cases c0:c=0 <;> by_cases b0:b=0 <;> by_cases q0:q=0 <;> by_cases hh:h=0 <;> cases u <;> simp_all
   ·simp [h1,h2,h3]
theorem implPutNum_l (n:Nat) (acc:List Int) (h:acc.length+n≤70368744177664) (hn:n≤2147483647):Ev (fun k=>Z37.l0 k (n:Int) acc) (acc++putM n):=by
 induction n using Nat.strongRecOn generalizing acc with
 | ind n ih =>
  by_cases hb:n > 127
  ·have:=ih (n / 128) (by omega) (acc++[((n % 128+128:Nat):Int)]) (by simp;omega) (by omega)
   rw [putM,if_pos hb]
   rw [List.append_assoc] at this
   refine Ev.step (fun k=>?_) this
   simp only [Z37.l0];rw [if_pos (by omega),if_pos (by omega),Int.tmod_eq_emod_of_nonneg (by omega),w64 (x:=128+(n:Int) % 128) (by omega) (by omega),Int.tdiv_eq_ediv_of_nonneg (by omega),w64 (by omega) (by omega)]
   congr 2
   congr 1
   omega
  ·rw [putM,if_neg hb]
   refine ev_end fun k=>?_
   simp only [Z37.l0];rw [if_neg (by omega),if_pos (by omega),Int.emod_eq_of_lt (by omega) (by omega)]
theorem implPutNum_ev (n:Int):Ev (fun k=>Z37.f k n) (putNum n):=by
 by_cases h:0≤n∧n≤2147483647
 ·obtain ⟨m,rfl⟩:=Int.eq_ofNat_of_zero_le h.1
  have:=implPutNum_l m [] (by simp;omega) (by omega)
  refine Ev.congr (fun k=>?_) (by simpa [putNum,h] using this)
  simp [Z37.f,inRange_eq,h]
 ·refine ev_some fun k=>?_
  simp [Z37.f,inRange_eq,h,putNum]
theorem implPutNums_ev (b l:List Int) (h:l.length≤4194304) (hb:b.length≤4194304):Ev (fun k=>Z25.f k b l) (b++putNumsM l):=by
 have:=ev_list l (fun k (acc:List Int) i=>Z25.l0 k acc l (l.length:Int) i) (fun acc t=>acc++putNumsM t) (fun i acc=>acc.length≤b.length+5*i)
  (fun acc hI=>ev_end fun k=>by simp only [Z25.l0];rw [if_neg (by omega)];simp [putNumsM])
  (fun i acc x t hI hi _ hx ih=>by
   have hs:=putNum_short x;have e:acc++putNumsM (x :: t)=(acc++putNum x)++putNumsM t:=by simp [putNumsM]
   rw [e]
   refine Ev.step (f:=fun k=>(Z37.f k x).bind fun t169=>(if acc.length+t169.length<140737488355328 then (Z25.l0 k (acc++t169) l (l.length:Int) ((i+1:Nat):Int)) else (none))) (fun k=>?_) (Ev.bind (implPutNum_ev x) ?_)
   ·simp only [Z25.l0]
    rw [if_pos (by omega),if_pos (by omega),if_pos (by omega),rd_at hx,w64_succ (by omega)]
   ·refine Ev.congr (fun k=>?_) (ih (acc++putNum x) (by simp;omega))
    rw [if_pos (by omega)])
  b (by omega)
 simpa [Z25.f] using this
theorem implSumOf_ev (l:List Int) (h:l.length≤4194304) (hb:∀ x∈l,0≤x∧x<256):Ev (fun k=>Z40.f k l) (sumOf l):=by
 have hh:=ev_list l (fun k (s:Int × Int) i=>Z40.l0 k s.1 s.2 l (l.length:Int) i) (fun s t=>sumM s.1 s.2 t) (fun _ s=>0≤s.1∧s.1<65521∧0≤s.2∧s.2<65521)
  (fun s hI=>by
   obtain ⟨x,y⟩:=s;obtain ⟨a1,a2,a3,a4⟩:=hI;dsimp only at a1 a2 a3 a4 ⊢;refine ev_end fun k=>?_
   simp only [Z40.l0];rw [if_neg (by omega),w64 (x:=y*65536) (by omega) (by omega),w64 (by omega) (by omega)]
   rfl)
  (fun i s b t hI hi _ hx ih=>by
   obtain ⟨x,y⟩:=s;obtain ⟨a1,a2,a3,a4⟩:=hI;dsimp only at a1 a2 a3 a4 ih ⊢;have hbb:=hb b (List.mem_of_getElem? hx);refine Ev.step (fun k=>?_) (ih ((x+b) % 65521,(y+(x+b) % 65521) % 65521) ⟨by dsimp only;omega,by dsimp only;omega,by dsimp only;omega,by dsimp only;omega⟩)
   simp only [Z40.l0];rw [if_pos (by omega),if_pos (by omega),if_pos (by omega),rd_at hx,w64_succ (by omega),w64 (x:=b) (by omega) (by omega),w64 (x:=x+b) (by omega) (by omega),Int.tmod_eq_emod_of_nonneg (by omega),w64 (by omega) (by omega),Int.tmod_eq_emod_of_nonneg (by omega)])
  (1,0) ⟨by simp,by simp,by simp,by simp⟩
 exact hh
theorem implSummed_ev (l:List Int) (h:l.length≤4194304) (hb:∀ x∈l,0≤x∧x<256):Ev (fun k=>Z45.f k l) (summedM l):=by
 simp only [Z45.f];refine Ev.bind (implSumOf_ev l h hb) (ev_some fun k=>?_)
 simp only [Option.bind_some,List.length_cons,List.length_nil];rw [if_pos (by omega)]
 rfl
theorem implInBytes_ev (k p r c b q h:Int) (u:Bool):Ev (fun n=>Z38.f n k p r c b q h u) (inBytesM k p r c b q h u):=by
 simp only [Z38.f,implInOk_eq,Option.bind_some,inBytesM]
 by_cases ho:inOk k p r c b q h u=true
 ·have hl:=inBody_length k p r c b q h u
  have hy:=inBody_bytes k p r c b q h u;simp only [ho,if_true];refine Ev.bind (implPutNums_ev [] [k,p] (by simp) (by simp)) ?_
  rw [List.nil_append]
  have h1:=putNumsM_length [k,p];simp only [List.length_cons,List.length_nil] at h1
  by_cases k1:k=1
  ·have eb:inBody k p r c b q h u=putNumsM [k,p]++putNumsM [r,c,b,q,h]:=by unfold inBody;rw [if_pos k1]
   rw [eb] at hl hy ⊢
   simp only [if_pos k1];refine Ev.bind (implPutNums_ev (putNumsM [k,p]) [r,c,b,q,h] (by simp) (by omega)) ?_
   exact Ev.bind (implSummed_ev _ (by omega) hy) (ev_some fun n=>rfl)
  ·by_cases k3:k=3
   ·have eb:inBody k p r c b q h u=putNumsM [k,p]++[if u then 1 else 0]:=by unfold inBody;rw [if_neg k1,if_pos k3]
    rw [eb] at hl hy ⊢
    have e1:Z79.f u=some (if u then 1 else 0):=by cases u <;> rfl
    have e:(putNumsM [k,p]).length<140737488355328:=by omega
    simp only [if_neg k1,if_pos k3,e1,Option.bind_some,e,if_true];exact Ev.bind (implSummed_ev _ (by omega) hy) (ev_some fun n=>rfl)
   ·have eb:inBody k p r c b q h u=putNumsM [k,p]:=by unfold inBody;rw [if_neg k1,if_neg k3];simp
    rw [eb] at hl hy ⊢
    simp only [if_neg k1,if_neg k3];exact Ev.bind (implSummed_ev _ (by omega) hy) (ev_some fun n=>rfl)
 ·refine ev_some fun n=>?_
  simp [ho]
theorem specPutNum_l (n:Nat) (acc:List Int) (h:acc.length+n≤70368744177664) (hn:n≤2147483647):Ev (fun k=>Z29.l0 k (n:Int) acc) (acc++putM n):=by
 induction n using Nat.strongRecOn generalizing acc with
 | ind n ih =>
  by_cases hb:n > 127
  ·have:=ih (n / 128) (by omega) (acc++[((n % 128+128:Nat):Int)]) (by simp;omega) (by omega)
   rw [putM,if_pos hb]
   rw [List.append_assoc] at this
   refine Ev.step (fun k=>?_) this
   simp only [Z29.l0];rw [if_pos (by omega),if_pos (by omega),Int.tmod_eq_emod_of_nonneg (by omega),w64 (x:=(n:Int) % 128+128) (by omega) (by omega),Int.tdiv_eq_ediv_of_nonneg (by omega),w64 (by omega) (by omega)]
   congr 2
   congr 1
   omega
  ·rw [putM,if_neg hb]
   refine ev_end fun k=>?_
   simp only [Z29.l0];rw [if_neg (by omega),if_pos (by omega),Int.emod_eq_of_lt (by omega) (by omega)]
theorem specPutNum_ev (n:Int):Ev (fun k=>Z29.f k n) (putNum n):=by
 by_cases h:0≤n∧n≤2147483647
 ·obtain ⟨m,rfl⟩:=Int.eq_ofNat_of_zero_le h.1
  have:=specPutNum_l m [] (by simp;omega) (by omega)
  refine Ev.congr (fun k=>?_) (by simpa [putNum,h] using this)
  simp [Z29.f,l1In_eq,h]
 ·refine ev_some fun k=>?_
  simp [Z29.f,l1In_eq,h,putNum]
theorem specL9Nums_ev (l:List Int) (h:l.length≤4194304):Ev (fun k=>Z19.f k l) (putNumsM l):=by
 have:=ev_list l (fun k (acc:List Int) i=>Z19.l0 k l acc i) (fun acc t=>acc++putNumsM t) (fun i acc=>acc.length≤5*i)
  (fun acc hI=>ev_end fun k=>by simp only [Z19.l0];rw [if_neg (by omega)];simp [putNumsM])
  (fun i acc x t hI hi _ hx ih=>by
   have hs:=putNum_short x;have e:acc++putNumsM (x :: t)=(acc++putNum x)++putNumsM t:=by simp [putNumsM]
   rw [e]
   refine Ev.step (f:=fun k=>(Z29.f k x).bind fun t169=>(if acc.length+t169.length<140737488355328 then (Z19.l0 k l (acc++t169) ((i+1:Nat):Int)) else (none))) (fun k=>?_) (Ev.bind (specPutNum_ev x) ?_)
   ·simp only [Z19.l0]
    rw [if_pos (by omega),if_pos (by omega),rd_at hx,w64_succ (by omega)]
   ·refine Ev.congr (fun k=>?_) (ih (acc++putNum x) (by simp;omega))
    rw [if_pos (by omega)])
  [] (by simp)
 simpa [Z19.f] using this
theorem specSumOf_ev (l:List Int) (h:l.length≤4194304) (hb:∀ x∈l,0≤x∧x<256):Ev (fun k=>Z24.f k l) (sumOf l):=by
 have hh:=ev_list l (fun k (s:Int × Int) i=>Z24.l0 k l s.1 s.2 i) (fun s t=>sumM s.1 s.2 t) (fun _ s=>0≤s.1∧s.1<65521∧0≤s.2∧s.2<65521)
  (fun s hI=>by
   obtain ⟨x,y⟩:=s;obtain ⟨a1,a2,a3,a4⟩:=hI;dsimp only at a1 a2 a3 a4 ⊢;refine ev_end fun k=>?_
   simp only [Z24.l0];rw [if_neg (by omega),w64 (x:=y*65536) (by omega) (by omega),w64 (by omega) (by omega)]
   rfl)
  (fun i s b t hI hi _ hx ih=>by
   obtain ⟨x,y⟩:=s;obtain ⟨a1,a2,a3,a4⟩:=hI;dsimp only at a1 a2 a3 a4 ih ⊢;have hbb:=hb b (List.mem_of_getElem? hx);refine Ev.step (fun k=>?_) (ih ((x+b) % 65521,(y+(x+b) % 65521) % 65521) ⟨by dsimp only;omega,by dsimp only;omega,by dsimp only;omega,by dsimp only;omega⟩)
   simp only [Z24.l0];rw [if_pos (by omega),if_pos (by omega),rd_at hx,w64_succ (by omega),w64 (x:=b) (by omega) (by omega),w64 (x:=x+b) (by omega) (by omega),Int.tmod_eq_emod_of_nonneg (by omega),w64 (by omega) (by omega),Int.tmod_eq_emod_of_nonneg (by omega)])
  (1,0) ⟨by simp,by simp,by simp,by simp⟩
 exact hh
theorem i64_wraps' (n:Int) (h0:0≤n) (h1:n<2 ^ 62):IntKind.i64.wrap n=n:=by
 rw [IntKind.wrap_i64]
 omega
theorem and_255 (x:Int) (h0:0≤x) (h1:x<4294967296):Go.bits .and .i64 x 255=x % 256:=by
 have:=Go.bits_mask .i64 62 (by decide) i64_wraps' 8 (by decide) x h0 (by omega)
 simpa using this
theorem l2Sum_eq (s:Int) (h0:0≤s) (h1:s<4294967296):Z52.f s=some (four s):=by
 simp only [Z52.f,four];rw [and_255 s h0 h1,and_255 (s / 256) (by omega) (by omega),and_255 (s / 65536) (by omega) (by omega),and_255 (s / 16777216) (by omega) (by omega)]
 simp
theorem putNum_bit (u:Bool):putNumsM [if u then 1 else 0]=[if u then 1 else 0]:=by
 cases u <;> simp [putNumsM,putNum,putM]
theorem specInBytes_ev (k p r c b q h:Int) (u:Bool):Ev (fun n=>Z28.f n k p r c b q h u) (inBytesM k p r c b q h u):=by
 simp only [Z28.f,specInOk_eq,Option.bind_some,inBytesM]
 by_cases ho:inOk k p r c b q h u=true
 ·have hl:=inBody_length k p r c b q h u
  have hy:=inBody_bytes k p r c b q h u;simp only [ho,if_true];refine Ev.bind (specL9Nums_ev [k,p] (by simp)) ?_
  have fin:∀ body,body.length≤35→(∀ x∈body,0≤x∧x<256)→Ev (fun n=>(Z24.f n body).bind fun t159=>((Z52.f t159).bind fun t160=>(if body.length+t160.length<140737488355328 then (some (body++t160)) else (none)))) (summedM body):=by
   intro body h1 h2;refine Ev.bind (specSumOf_ev body (by omega) h2) (ev_some fun n=>?_)
   rw [l2Sum_eq _ (sumOf_range _).1 (sumOf_range _).2]
   simp only [Option.bind_some];rw [if_pos (by simp [four];omega)]
   rfl
  by_cases k1:k=1
  ·have eb:inBody k p r c b q h u=putNumsM [k,p]++putNumsM [r,c,b,q,h]:=by unfold inBody;rw [if_pos k1]
   rw [eb] at hl hy ⊢
   simp only [if_pos k1];refine Ev.bind (specL9Nums_ev [r,c,b,q,h] (by simp)) ?_
   have e:(putNumsM [k,p]).length+(putNumsM [r,c,b,q,h]).length<140737488355328:=by rw [List.length_append] at hl;omega
   simp only [e,if_true];exact fin _ hl hy
  ·by_cases k3:k=3
   ·have eb:inBody k p r c b q h u=putNumsM [k,p]++[if u then 1 else 0]:=by unfold inBody;rw [if_neg k1,if_pos k3]
    rw [eb] at hl hy ⊢
    have e1:Z77.f u=some (if u then 1 else 0):=by cases u <;> rfl
    simp only [if_neg k1,if_pos k3,e1,Option.bind_some];refine Ev.bind (specL9Nums_ev [if u then 1 else 0] (by simp)) ?_
    rw [putNum_bit]
    have e:(putNumsM [k,p]).length+[if u then (1:Int) else 0].length<140737488355328:=by rw [List.length_append] at hl;omega
    simp only [e,if_true];exact fin _ hl hy
   ·have eb:inBody k p r c b q h u=putNumsM [k,p]:=by unfold inBody;rw [if_neg k1,if_neg k3];simp
    rw [eb] at hl hy ⊢
    simp only [if_neg k1,if_neg k3];exact fin _ hl hy
 ·refine ev_some fun n=>?_
  simp [ho]
def getM:Nat→Int→List Int→Option (Int × Nat)
 | _,_,[]=>none
 | i,n,x :: t=>if i<5 then
   (if x<128 then (if x=0∧0<i∨n+x % 128*128 ^ i > 2147483647 then none else some (n+x % 128*128 ^ i,i+1)) else getM (i+1) (n+x % 128*128 ^ i) t)
  else none
def getNum (l:List Int) (at_:Int):Int × Int × Bool :=
 if at_<0 then (0,0,false) else match getM 0 0 (l.drop at_.toNat) with
  | none=>(0,0,false)
  | some (n,c)=>(n,at_+c,true)
theorem i64_wraps (n:Int) (h0:0≤n) (h1:n<2 ^ 62):IntKind.i64.wrap n=n:=by
 rw [IntKind.wrap_i64]
 omega
theorem or_comm64 (a b:Int):Go.bits .or .i64 a b=Go.bits .or .i64 b a:=by simp only [Go.bits,BitVec.or_comm]
theorem or_join (i:Nat) (n d:Int) (hi:i<5) (h0:0≤n) (h1:n<128 ^ i) (h2:0≤d) (h3:d<128) :
  Go.bits .or .i64 n (shl .i64 d (7*(i:Int)))=n+d*128 ^ i:=by
 have key:∀ j:Nat,j≤28→n<2 ^ j→(2:Int) ^ j≤268435456→Go.bits .or .i64 n (IntKind.i64.wrap (d*2 ^ j))=n+d*2 ^ j:=by
  intro j hj hn hp;have hp0:(0:Int)<2 ^ j:=Int.pow_pos (by decide)
  have hd0:0≤d*2 ^ j:=Int.mul_nonneg h2 (Int.le_of_lt hp0);have hd1:d*2 ^ j≤127*268435456:=by
   calc d*2 ^ j≤127*2 ^ j:=Int.mul_le_mul_of_nonneg_right (by omega) (Int.le_of_lt hp0)
    _≤127*268435456:=Int.mul_le_mul_of_nonneg_left hp (by decide)
  rw [i64_wraps _ hd0 (by omega),or_comm64,Go.bits_join .i64 62 (by decide) i64_wraps j _ _ hd0 (Int.mul_emod_left _ _) (by omega) h0 hn (by omega)]
  omega
 match i,hi with
 | 0,_=>have:=key 0 (by decide) (by simpa using h1) (by decide);simpa [shl,IntKind.bits] using this
 | 1,_=>have:=key 7 (by decide) (by simpa using h1) (by decide);simpa [shl,IntKind.bits] using this
 | 2,_=>have:=key 14 (by decide) (by simpa using h1) (by decide);simpa [shl,IntKind.bits] using this
 | 3,_=>have:=key 21 (by decide) (by simpa using h1) (by decide);simpa [shl,IntKind.bits] using this
 | 4,_=>have:=key 28 (by decide) (by simpa using h1) (by decide);simpa [shl,IntKind.bits] using this
theorem and_127 (x:Int) (h0:0≤x) (h1:x<256):Go.bits .and .i64 x 127=x % 128:=by
 have:=Go.bits_mask .i64 62 (by decide) i64_wraps 7 (by decide) x h0 (by omega)
 simpa using this
theorem pow_step (i:Nat) (n d:Int) (h0:0≤n) (h1:n<128 ^ i) (h2:0≤d) (h3:d<128):0≤n+d*128 ^ i∧n+d*128 ^ i<128 ^ (i+1):=by
 have hp:(0:Int)<128 ^ i:=Int.pow_pos (by decide)
 have a:0≤d*128 ^ i:=Int.mul_nonneg h2 (Int.le_of_lt hp);have b:d*128 ^ i≤127*128 ^ i:=Int.mul_le_mul_of_nonneg_right (by omega) (Int.le_of_lt hp)
 rw [Int.pow_succ]
 omega
theorem pow128 (i:Nat):(0:Int)<128 ^ i:=Int.pow_pos (by decide)
theorem getM_some:∀ (l:List Int) (i:Nat) (acc:Int) (n:Int) (c:Nat),0≤acc→(∀ x∈l,0≤x∧x<256)→getM i acc l=some (n,c)→0≤n∧n≤2147483647∧i<c∧c≤i+l.length∧c≤5:=by
 intro l
 induction l with
 | nil=>intro i acc n c _ _ h;simp [getM] at h
 | cons x t ih =>
  intro i acc n c h0 hb h;have hx:=hb x (by simp)
  have hp:0≤x % 128*128 ^ i:=Int.mul_nonneg (by omega) (Int.le_of_lt (pow128 i))
  rw [getM] at h
  by_cases h5:i<5
  ·rw [if_pos h5] at h
   by_cases h128:x<128
   ·rw [if_pos h128] at h
    split at h
    ·cases h
    ·rename_i hn
     injection h with h
     injection h with h1 h2
     subst h1;subst h2;refine ⟨by omega,by omega,by omega,by simp,by omega⟩
   ·rw [if_neg h128] at h
    have:=ih (i+1) (acc+x % 128*128 ^ i) n c (by omega) (fun y hy=>hb y (by simp [hy])) h
    simp only [List.length_cons];omega
  ·rw [if_neg h5] at h
   cases h
theorem byte_inj {x y:Int} (hx:0≤x∧x<256) (hy:0≤y∧y<256) (h:UInt8.ofNat x.toNat=UInt8.ofNat y.toNat):x=y:=by
 have:=congrArg UInt8.toNat h;simp only [UInt8.toNat_ofNat'] at this;omega
theorem strOfNums_inj:∀ (a b:List Int),(∀ x∈a,0≤x∧x<256)→(∀ x∈b,0≤x∧x<256)→(strOfNums a).toList=(strOfNums b).toList→a=b:=by
 intro a b ha hb h;rw [Lib.toList_data,Lib.toList_data] at h
 simp only [strOfNums] at h;have key:∀ (a b:List Int),(∀ x∈a,0≤x∧x<256)→(∀ x∈b,0≤x∧x<256)→a.map (fun x=>UInt8.ofNat x.toNat)=b.map (fun x=>UInt8.ofNat x.toNat)→a=b:=by
  intro a
  induction a with
  | nil =>
   intro b _ _ h;cases b with
   | nil=>rfl
   | cons y t=>simp at h
  | cons x t ih =>
   intro b ha hb h;cases b with
   | nil=>simp at h
   | cons y u =>
    simp only [List.map_cons,List.cons.injEq] at h;rw [byte_inj (ha x (by simp)) (hb y (by simp)) h.1,ih u (fun z hz=>ha z (by simp [hz])) (fun z hz=>hb z (by simp [hz])) h.2]
 exact key a b ha hb (by simpa using h)
theorem summedM_bytes (l:List Int) (h:∀ x∈l,0≤x∧x<256):∀ x∈summedM l,0≤x∧x<256:=by
 intro x hx
 rcases List.mem_append.1 hx with hx|hx
 ·exact h x hx
 ·exact four_bytes _ x hx
theorem getNum_in (l:List Int) (a:Int) (hb:∀ x∈l,0≤x∧x<256) (h:(getNum l a).2.2=true):0≤a∧a<l.length∧a≤(getNum l a).2.1∧(getNum l a).2.1≤l.length:=by
 unfold getNum at h ⊢
 by_cases hn:a<0
 ·rw [if_pos hn] at h
  cases h
 ·rw [if_neg hn] at h ⊢
  have hd:∀ x∈l.drop a.toNat,0≤x∧x<256:=fun x hx=>hb x (List.mem_of_mem_drop hx)
  cases e:getM 0 0 (l.drop a.toNat) with
  | none=>rw [e] at h;cases h
  | some p =>
   obtain ⟨n,c⟩:=p;have:=getM_some _ 0 0 n c (by omega) hd e
   have el:(l.drop a.toNat).length=l.length - a.toNat:=by simp
   rw [el] at this
   dsimp only;omega
def readN (l:List Int) (a:Int) (ok:Bool):Int × Int × Bool:=if ok=true∧(getNum l a).2.2=true then ((getNum l a).1,(getNum l a).2.1,true) else (0,a,false)
def In64 (a:Int):Prop:=-9223372036854775808≤a∧a≤9223372036854775807
theorem readN_in (l:List Int) (a:Int) (ok:Bool) (hl:l.length≤4194304) (hb:∀ x∈l,0≤x∧x<256) (ha:In64 a):In64 (readN l a ok).2.1:=by
 unfold readN
 split
 ·rename_i h
  have:=getNum_in l a hb h.2;exact ⟨by dsimp only;omega,by dsimp only;omega⟩
 ·exact ha
theorem readN_ok (l:List Int) (a:Int) (ok:Bool) (hb:∀ x∈l,0≤x∧x<256) (h:(readN l a ok).2.2=true):ok=true∧0≤a∧a<l.length:=by
 unfold readN at h
 split at h
 ·rename_i h2
  have:=getNum_in l a hb h2.2;exact ⟨h2.1,this.1,this.2.1⟩
 ·cases h
def finM (l:List Int) (a:Int) (ok:Bool) (k p r c b q h:Int) (u:Bool):Int × Int × Int × Int × Int × Int × Int × Bool × Int × Bool :=
 if ok=true∧¬ (inBytesM k p r c b q h u).length=0∧((inBytesM k p r c b q h u).length:Int)≤(l.length:Int) - a∧(l.take (a+((inBytesM k p r c b q h u).length:Int)).toNat).drop a.toNat=inBytesM k p r c b q h u then
  (k,p,r,c,b,q,h,u,a+((inBytesM k p r c b q h u).length:Int),true)
 else (0,0,0,0,0,0,0,false,0,false)
theorem inBytesM_bytes (k p r c b q h:Int) (u:Bool):∀ x∈inBytesM k p r c b q h u,0≤x∧x<256:=by
 unfold inBytesM
 split
 ·exact summedM_bytes _ (inBody_bytes k p r c b q h u)
 ·simp
def inOfM (l:List Int) (a:Int):Int × Int × Int × Int × Int × Int × Int × Bool × Int × Bool :=
 let r0:=readN l a true
 let r1:=readN l r0.2.1 r0.2.2
 let r2:=readN l r1.2.1 r1.2.2
 let r3:=readN l r2.2.1 r2.2.2
 let r4:=readN l r3.2.1 r3.2.2
 let r5:=readN l r4.2.1 r4.2.2
 let r6:=readN l r5.2.1 r5.2.2
 if r0.1=1 then finM l a r6.2.2 r0.1 r1.1 r2.1 r3.1 r4.1 r5.1 r6.1 false
 else if r0.1=3 then finM l a r2.2.2 r0.1 r1.1 0 0 0 0 0 (r2.1 == 1)
 else finM l a r1.2.2 r0.1 r1.1 0 0 0 0 0 false
theorem finM_no (l:List Int) (a:Int) (k p r c b q h:Int) (u:Bool):finM l a false k p r c b q h u=(0,0,0,0,0,0,0,false,0,false):=by
 unfold finM
 rw [if_neg (fun e=>by cases e.1)]
theorem implGetNum_ev (l:List Int) (a:Int) (h:l.length≤4194304) (hb:∀ x∈l,0≤x∧x<256) (ha:-9223372036854775808≤a∧a≤9223372036854775807):Ev (fun k=>Z12.f k l a) (getNum l a):=by
 by_cases hneg:a<0
 ·exact ev_some fun k=>by simp [Z12.f,getNum,hneg]
 obtain ⟨p,rfl⟩:=Int.eq_ofNat_of_zero_le (Int.not_lt.1 hneg);have key:∀ (d i:Nat) (n:Int),i+d=5→0≤n→n<128 ^ i →
   Ev (fun k=>Z12.l0 k l (p:Int) n (i:Int)) (match getM i n (l.drop (p+i)) with|none=>(0,0,false)|some (m,c)=>(m,(p:Int)+c,true)):=by
  intro d
  induction d with
  | zero =>
   intro i n hi h0 h1;refine Ev.step (f:=fun k=>Z12.j1 k l (p:Int) n (i:Int) false) (fun k=>by simp only [Z12.l0];rw [if_neg (by omega)]) (ev_end fun k=>?_)
   simp only [Z12.j1];rw [if_neg (by simp)]
   have:getM i n (l.drop (p+i))=none:=by
    cases l.drop (p+i) with
    | nil=>rfl
    | cons x t=>rw [getM,if_neg (by omega)]
   rw [this]
  | succ d ih =>
   intro i n hi h0 h1
   by_cases hin:p+i<l.length
   ·have e:l.drop (p+i)=l[p+i] :: l.drop (p+(i+1)):=by rw [List.drop_eq_getElem_cons hin];rfl
    rw [e]
    generalize hx:l[p+i]=x
    have hxx:l[p+i]?=some x:=by rw [← hx];exact List.getElem?_eq_getElem hin
    have hxb:=hb x (List.mem_of_getElem? hxx);have hr:rd l ((p:Int)+(i:Int))=x:=by have:=rd_at hxx;simpa using this
    have hu:∀ y:Int,0≤y→y<100→IntKind.u64.wrap y=y:=fun y h0 h1=>by simp [IntKind.wrap,IntKind.bits,IntKind.signed];omega
    have hand:=and_127 x hxb.1 hxb.2;have hpw:=pow_step i n (x % 128) h0 h1 (by omega) (by omega)
    have hor:Go.bits .or .i64 n (shl .i64 (x % 128) (7*(i:Int)))=n+x % 128*128 ^ i:=or_join i n _ (by omega) h0 h1 (by omega) (by omega)
    have s1:∀ k,Z12.l0 (k+1) l (p:Int) n (i:Int)=Z12.j1 k l (p:Int) n (i:Int) true:=by
     intro k;simp only [Z12.l0];rw [if_pos (by omega),w64 (by omega) (by omega)]
     congr 1
     rw [decide_eq_true_iff]
     omega
    by_cases hx128:x<128
    ·rw [getM,if_pos (show i<5 by omega),if_pos hx128]
     refine Ev.step s1 (ev_end fun k=>?_)
     simp only [Z12.j1];rw [if_pos trivial,w64 (x:=(p:Int)+(i:Int)) (by omega) (by omega),hr,w64 (x:=7*(i:Int)) (by omega) (by omega),hu (7*(i:Int)) (by omega) (by omega),w64 (x:=x) (by omega) (by omega),
      if_pos (by omega),if_pos (by omega),if_pos (by omega),if_neg (by omega),hand,hor,w64 (x:=(p:Int)+(i:Int)+1) (by omega) (by omega)]
     by_cases hx0:x=0
     ·rw [if_pos hx0]
      by_cases hi0:0<i
      ·rw [if_pos (by omega),if_pos (Or.inl ⟨hx0,hi0⟩)]
      ·rw [if_neg (by omega)]
       by_cases hbig:n+x % 128*128 ^ i > 2147483647
       ·rw [if_pos hbig,if_pos (Or.inr hbig)]
       ·rw [if_neg hbig,if_neg (by omega)]
        simp
        omega
     ·rw [if_neg hx0]
      by_cases hbig:n+x % 128*128 ^ i > 2147483647
      ·rw [if_pos hbig,if_pos (Or.inr hbig)]
      ·rw [if_neg hbig,if_neg (by omega)]
       simp
       omega
    ·have:=ih (i+1) _ (by omega) hpw.1 hpw.2
     rw [getM,if_pos (by omega),if_neg hx128]
     refine Ev.step s1 (Ev.step (fun k=>?_) this)
     simp only [Z12.j1];rw [if_pos trivial,w64 (x:=(p:Int)+(i:Int)) (by omega) (by omega),hr,w64 (x:=7*(i:Int)) (by omega) (by omega),hu (7*(i:Int)) (by omega) (by omega),w64 (x:=x) (by omega) (by omega),
      if_pos (by omega),if_pos (by omega),if_pos (by omega),if_pos (by omega),hand,hor,w64_succ (by omega)]
   ·have e:l.drop (p+i)=[]:=List.drop_eq_nil_of_le (by omega)
    rw [e]
    refine Ev.step (f:=fun k=>Z12.j1 k l (p:Int) n (i:Int) false) (fun k=>?_) (ev_end fun k=>?_)
    ·simp only [Z12.l0]
     rw [if_pos (by omega),w64 (by omega) (by omega)]
     congr 1
     rw [decide_eq_false_iff_not]
     omega
    ·simp only [Z12.j1]
     rw [if_neg (by simp)]
     rfl
 have:=key 5 0 0 rfl (by omega) (by simp)
 simp only [getNum,Z12.f,if_neg hneg];exact this
theorem num_ev (l:List Int) (a:Int) (ok:Bool) (hl:l.length≤4194304) (hb:∀ x∈l,0≤x∧x<256) (ha:In64 a):Ev (fun k=>Z41.f k l a (!ok)) ((readN l a ok).1,(readN l a ok).2.1,!(readN l a ok).2.2):=by
 simp only [Z41.f];refine Ev.bind (implGetNum_ev l a hl hb ha) (ev_some fun _=>?_)
 unfold readN
 cases ok with
 | false=>simp
 | true =>
  rw [if_neg (by decide)]
  by_cases h:(getNum l a).2.2=true
  ·rw [if_pos h,if_pos ⟨rfl,h⟩]
  ·rw [if_neg h,if_neg (fun e=>h e.2)];rfl
theorem implFin_ev (l:List Int) (a c1:Int) (ok:Bool) (k p r c b q h:Int) (u:Bool) (hl:l.length≤4194304) (hb:∀ x∈l,0≤x∧x<256) (h0:0≤a) (h1:a≤l.length) :
  Ev (fun n=>Z13.j1 n l a l c1 (!ok) k p r c b q h u) (finM l a ok k p r c b q h u):=by
 have hw:=inBytesM_length k p r c b q h u;have hwb:=inBytesM_bytes k p r c b q h u;refine Ev.stepBind (implInBytes_ev k p r c b q h u) (fun _=>rfl) (f:=fun n t=>_) (ev_some fun _=>?_)
 cases ok with
 | false=>simp [finM_no]
 | true =>
  rw [if_neg (by decide)]
  by_cases hz:((inBytesM k p r c b q h u).length:Int)=0
  ·rw [if_pos hz]
   unfold finM
   rw [if_neg (fun e=>e.2.1 (by omega))]
  ·rw [if_neg hz,if_pos h0,if_pos h1]
   have hdl:((l.drop a.toNat).length:Int)=(l.length:Int) - a:=by
    rw [List.length_drop]
    omega
   simp only [Z80.f,hdl]
   by_cases hg:(l.length:Int) - a ≥ ((inBytesM k p r c b q h u).length:Int)
   ·rw [if_pos hg,if_pos (by omega),if_pos hg]
    have et:(l.drop a.toNat).take (((inBytesM k p r c b q h u).length:Int)).toNat=(l.take (a+((inBytesM k p r c b q h u).length:Int)).toNat).drop a.toNat:=by
     rw [List.drop_take]
     congr 1
     omega
    rw [et]
    simp only [Z81.f,Option.bind_some]
    by_cases he:(l.take (a+((inBytesM k p r c b q h u).length:Int)).toNat).drop a.toNat=inBytesM k p r c b q h u
    ·rw [if_pos (by rw [he];exact beq_self_eq_true _),w64 (x:=a+((inBytesM k p r c b q h u).length:Int)) (by omega) (by omega)]
     unfold finM
     rw [if_pos ⟨rfl,by omega,by omega,he⟩]
    ·rw [if_neg (fun e=>he (strOfNums_inj _ _ (fun x hx=>hb x (List.mem_of_mem_take (List.mem_of_mem_drop hx))) hwb (eq_of_beq e)))]
     unfold finM
     rw [if_neg (fun e=>he e.2.2.2)]
   ·rw [if_neg hg]
    simp only [Option.bind_some,Bool.false_eq_true,if_false];unfold finM
    rw [if_neg (fun e=>by have:=e.2.2.1;omega)]
theorem implInOf_j (l:List Int) (a:Int) (hl:l.length≤4194304) (hb:∀ x∈l,0≤x∧x<256) (h0:0≤a) (h1:a≤l.length):Ev (fun k=>Z13.j0 k l a false) (inOfM l a):=by
 have ha:In64 a:=⟨by omega,by omega⟩
 have a0:=readN_in l a true hl hb ha;have e0:=num_ev l a true hl hb ha;unfold inOfM
 dsimp only;refine Ev.step (f:=fun k=>_) (fun k=>by simp only [Z13.j0,Bool.false_eq_true,if_false];rfl) ?_
 refine Ev.bind e0 ?_;generalize readN l a true=r0 at a0 ⊢
 have a1:=readN_in l r0.2.1 r0.2.2 hl hb a0;refine Ev.bind (num_ev l r0.2.1 r0.2.2 hl hb a0) ?_;generalize readN l r0.2.1 r0.2.2=r1 at a1 ⊢
 have a2:=readN_in l r1.2.1 r1.2.2 hl hb a1;have e2:=num_ev l r1.2.1 r1.2.2 hl hb a1;generalize readN l r1.2.1 r1.2.2=r2 at a2 e2 ⊢
 try dsimp only
 by_cases k1:r0.1=1
 ·simp only [if_pos k1]
  refine Ev.bind e2 ?_;have a3:=readN_in l r2.2.1 r2.2.2 hl hb a2;refine Ev.bind (num_ev l r2.2.1 r2.2.2 hl hb a2) ?_;generalize readN l r2.2.1 r2.2.2=r3 at a3 ⊢
  have a4:=readN_in l r3.2.1 r3.2.2 hl hb a3;refine Ev.bind (num_ev l r3.2.1 r3.2.2 hl hb a3) ?_;generalize readN l r3.2.1 r3.2.2=r4 at a4 ⊢
  have a5:=readN_in l r4.2.1 r4.2.2 hl hb a4;refine Ev.bind (num_ev l r4.2.1 r4.2.2 hl hb a4) ?_;generalize readN l r4.2.1 r4.2.2=r5 at a5 ⊢
  refine Ev.bind (num_ev l r5.2.1 r5.2.2 hl hb a5) ?_;generalize readN l r5.2.1 r5.2.2=r6
  exact implFin_ev l a _ r6.2.2 _ _ _ _ _ _ _ _ hl hb h0 h1
 ·simp only [if_neg k1]
  by_cases k3:r0.1=3
  ·simp only [if_pos k3]
   refine Ev.bind e2 ?_;exact implFin_ev l a _ r2.2.2 _ _ _ _ _ _ _ _ hl hb h0 h1
  ·simp only [if_neg k3]
   exact implFin_ev l a _ r1.2.2 _ _ _ _ _ _ _ _ hl hb h0 h1
theorem readN_off (l:List Int) (a:Int) (hb:∀ x∈l,0≤x∧x<256) (h:a<0∨a > (l.length:Int)) (ok:Bool):readN l a ok=(0,a,false):=by
 unfold readN
 rw [if_neg]
 rintro ⟨_,h2⟩;have:=getNum_in l a hb h2;omega
theorem implInOf_ev (l:List Int) (a:Int) (hl:l.length≤4194304) (hb:∀ x∈l,0≤x∧x<256):Ev (fun k=>Z13.f k l a) (inOfM l a):=by
 by_cases h:a<0∨a > (l.length:Int)
 ·have hz:inOfM l a=(0,0,0,0,0,0,0,false,0,false):=by
   unfold inOfM
   simp only [readN_off l a hb h];rw [if_neg (by omega),if_neg (by omega),finM_no]
  rw [hz]
  refine Ev.congr (f:=fun k=>Z13.j0 k l a true) (fun k=>?_) (ev_end fun k=>by simp only [Z13.j0,if_true])
  simp only [Z13.f]
  by_cases hn:a<0
  ·rw [if_pos hn]
  ·rw [if_neg hn,decide_eq_true (by omega)]
 ·refine Ev.congr (fun k=>?_) (implInOf_j l a hl hb (by omega) (by omega))
  simp only [Z13.f];rw [if_neg (by omega),decide_eq_false (by omega)]
theorem specGetNum_ev (l:List Int) (a:Int) (h:l.length≤4194304) (hb:∀ x∈l,0≤x∧x<256) (ha:-9223372036854775808≤a∧a≤9223372036854775807):Ev (fun k=>Z14.f k l a) (getNum l a):=by
 by_cases hneg:a<0
 ·refine ⟨2,fun k hk=>?_⟩
  obtain ⟨j,rfl⟩:∃ j,k=j+2:=⟨k - 2,by omega⟩
  simp [Z14.f,Z14.l0,Z14.j1,getNum,hneg]
 obtain ⟨p,rfl⟩:=Int.eq_ofNat_of_zero_le (Int.not_lt.1 hneg);have key:∀ (d i:Nat) (n:Int),i+d=5→0≤n→n<128 ^ i →
   Ev (fun k=>Z14.l0 k l (p:Int) n (i:Int)) (match getM i n (l.drop (p+i)) with|none=>(0,0,false)|some (m,c)=>(m,(p:Int)+c,true)):=by
  intro d
  induction d with
  | zero =>
   intro i n hi h0 h1;refine ev_end fun k=>?_
   simp only [Z14.l0];rw [if_neg (by omega)]
   have:getM i n (l.drop (p+i))=none:=by
    cases l.drop (p+i) with
    | nil=>rfl
    | cons x t=>rw [getM,if_neg (by omega)]
   rw [this]
  | succ d ih =>
   intro i n hi h0 h1
   by_cases hin:p+i<l.length
   ·have e:l.drop (p+i)=l[p+i] :: l.drop (p+(i+1)):=by rw [List.drop_eq_getElem_cons hin];rfl
    rw [e]
    generalize hx:l[p+i]=x
    have hxx:l[p+i]?=some x:=by rw [← hx];exact List.getElem?_eq_getElem hin
    have hxb:=hb x (List.mem_of_getElem? hxx);have hr:rd l ((p:Int)+(i:Int))=x:=by have:=rd_at hxx;simpa using this
    have hpw:=pow_step i n (x % 128) h0 h1 (by omega) (by omega)
    have hor:Go.bits .or .i64 n (shl .i64 (x % 128) (7*(i:Int)))=n+x % 128*128 ^ i:=or_join i n _ (by omega) h0 h1 (by omega) (by omega)
    have s1:∀ k,Z14.l0 (k+1) l (p:Int) n (i:Int)=Z14.j1 k l (p:Int) n (i:Int) false:=by
     intro k;simp only [Z14.l0];rw [if_pos (by omega),if_neg (by omega),w64 (by omega) (by omega)]
     congr 1
     rw [decide_eq_false_iff_not]
     omega
    by_cases hx128:x<128
    ·rw [getM,if_pos (show i<5 by omega),if_pos hx128]
     refine Ev.step s1 (ev_end fun k=>?_)
     simp only [Z14.j1];rw [if_neg (by simp),w64 (x:=(p:Int)+(i:Int)) (by omega) (by omega),hr,w64 (x:=7*(i:Int)) (by omega) (by omega),w64 (x:=x) (by omega) (by omega),
      if_pos (by omega),if_pos (by omega),if_pos (by omega),if_pos hx128,Int.tmod_eq_emod_of_nonneg hxb.1,hor,w64 (x:=(p:Int)+(i:Int)+1) (by omega) (by omega)]
     by_cases hi0:0<i
     ·rw [if_pos (by omega)]
      by_cases hx0:x=0
      ·rw [if_pos hx0,if_pos (Or.inl ⟨hx0,hi0⟩)]
      ·rw [if_neg hx0]
       by_cases hbig:n+x % 128*128 ^ i > 2147483647
       ·rw [if_pos hbig,if_pos (Or.inr hbig)]
       ·rw [if_neg hbig,if_neg (by omega)]
        simp
        omega
     ·rw [if_neg (by omega)]
      by_cases hbig:n+x % 128*128 ^ i > 2147483647
      ·rw [if_pos hbig,if_pos (Or.inr hbig)]
      ·rw [if_neg hbig,if_neg (by omega)]
       simp
       omega
    ·have:=ih (i+1) _ (by omega) hpw.1 hpw.2
     rw [getM,if_pos (by omega),if_neg hx128]
     refine Ev.step s1 (Ev.step (fun k=>?_) this)
     simp only [Z14.j1];rw [if_neg (by simp),w64 (x:=(p:Int)+(i:Int)) (by omega) (by omega),hr,w64 (x:=7*(i:Int)) (by omega) (by omega),w64 (x:=x) (by omega) (by omega),
      if_pos (by omega),if_pos (by omega),if_pos (by omega),if_neg hx128,Int.tmod_eq_emod_of_nonneg hxb.1,hor,w64_succ (by omega)]
   ·have e:l.drop (p+i)=[]:=List.drop_eq_nil_of_le (by omega)
    rw [e]
    refine Ev.step (f:=fun k=>Z14.j1 k l (p:Int) n (i:Int) true) (fun k=>?_) (ev_end fun k=>?_)
    ·simp only [Z14.l0]
     rw [if_pos (by omega),if_neg (by omega),w64 (by omega) (by omega)]
     congr 1
     rw [decide_eq_true_iff]
     omega
    ·simp only [Z14.j1,if_true]
     rfl
 have:=key 5 0 0 rfl (by omega) (by simp)
 simp only [getNum,if_neg hneg];exact this
theorem l9Num_ev (l:List Int) (a:Int) (ok:Bool) (hl:l.length≤4194304) (hb:∀ x∈l,0≤x∧x<256) (ha:In64 a):Ev (fun k=>Z8.f k l a ok) (readN l a ok):=by
 simp only [Z8.f];refine Ev.bind (specGetNum_ev l a hl hb ha) (ev_some fun _=>?_)
 unfold readN
 by_cases h:(getNum l a).2.2=true
 ·rw [if_pos h]
  by_cases ho:ok=true
  ·rw [if_pos ho,if_pos ⟨ho,h⟩,ho]
  ·rw [if_neg ho,if_neg (fun e=>ho e.1)]
 ·rw [if_neg h,if_neg (fun e=>h e.2)]
theorem specFin_ev (l:List Int) (a c1:Int) (ok:Bool) (k p r c b q h:Int) (u:Bool) (hl:l.length≤4194304) (hb:∀ x∈l,0≤x∧x<256) (hok:ok=true→0≤a∧a<l.length) :
  Ev (fun n=>Z7.j0 n l a l c1 ok k p r c b q h u) (finM l a ok k p r c b q h u):=by
 have hw:=inBytesM_length k p r c b q h u;have hwb:=inBytesM_bytes k p r c b q h u;refine Ev.stepBind (specInBytes_ev k p r c b q h u) (fun _=>rfl) (f:=fun n t=>_) ?_
 by_cases ho:ok=true
 ·obtain ⟨h0,h1⟩:=hok ho
  simp only [if_pos ho]
  by_cases hz:((inBytesM k p r c b q h u).length:Int)=0
  ·simp only [if_pos hz]
   refine ev_end fun n=>?_
   simp only [Z7.j1,if_true];unfold finM
   rw [if_neg (fun e=>e.2.1 (by omega))]
  ·simp only [if_neg hz]
   rw [w64 (x:=(l.length:Int) - a) (by omega) (by omega)]
   by_cases hg:((inBytesM k p r c b q h u).length:Int) > (l.length:Int) - a
   ·simp only [if_pos hg]
    refine ev_end fun n=>?_
    simp only [Z7.j1,if_true];unfold finM
    rw [if_neg (fun e=>by have:=e.2.2.1;omega)]
   ·simp only [if_neg hg]
    rw [w64 (x:=a+((inBytesM k p r c b q h u).length:Int)) (by omega) (by omega)]
    have g1:a≤a+((inBytesM k p r c b q h u).length:Int):=by omega
    have g2:a+((inBytesM k p r c b q h u).length:Int)≤(l.length:Int):=by omega
    simp only [if_pos h0,if_pos g1,if_pos g2];refine ev_end fun n=>?_
    by_cases he:(l.take (a+((inBytesM k p r c b q h u).length:Int)).toNat).drop a.toNat=inBytesM k p r c b q h u
    ·rw [he]
     simp only [Z7.j1,bne_self_eq_false,Bool.false_eq_true,if_false];rw [w64 (x:=a+((inBytesM k p r c b q h u).length:Int)) (by omega) (by omega)]
     unfold finM
     rw [if_pos ⟨ho,by omega,by omega,he⟩]
    ·have hd:((strOfNums ((l.take (a+((inBytesM k p r c b q h u).length:Int)).toNat).drop a.toNat)).toList != (strOfNums (inBytesM k p r c b q h u)).toList)=true:=by
      rw [bne_iff_ne]
      exact fun e=>he (strOfNums_inj _ _ (fun x hx=>hb x (List.mem_of_mem_take (List.mem_of_mem_drop hx))) hwb e)
     rw [hd]
     simp only [Z7.j1,if_true];unfold finM
     rw [if_neg (fun e=>he e.2.2.2)]
 ·simp only [if_neg ho]
  refine ev_end fun n=>?_
  simp only [Z7.j1,if_true];unfold finM
  rw [if_neg (fun e=>ho e.1)]
theorem specInOf_ev (l:List Int) (a:Int) (hl:l.length≤4194304) (hb:∀ x∈l,0≤x∧x<256) (ha:In64 a):Ev (fun k=>Z7.f k l a) (inOfM l a):=by
 have a0:=readN_in l a true hl hb ha;have k0:=readN_ok l a true hb;unfold inOfM
 simp only [Z7.f];refine Ev.bind (l9Num_ev l a true hl hb ha) ?_;generalize readN l a true=r0 at a0 k0 ⊢
 have a1:=readN_in l r0.2.1 r0.2.2 hl hb a0;have k1:=readN_ok l r0.2.1 r0.2.2 hb;refine Ev.bind (l9Num_ev l r0.2.1 r0.2.2 hl hb a0) ?_;generalize readN l r0.2.1 r0.2.2=r1 at a1 k1 ⊢
 have a2:=readN_in l r1.2.1 r1.2.2 hl hb a1;have k2:=readN_ok l r1.2.1 r1.2.2 hb;have e2:=l9Num_ev l r1.2.1 r1.2.2 hl hb a1;generalize readN l r1.2.1 r1.2.2=r2 at a2 k2 e2 ⊢
 by_cases h1:r0.1=1
 ·simp only [if_pos h1]
  refine Ev.bind e2 ?_;have a3:=readN_in l r2.2.1 r2.2.2 hl hb a2;have k3:=readN_ok l r2.2.1 r2.2.2 hb;refine Ev.bind (l9Num_ev l r2.2.1 r2.2.2 hl hb a2) ?_;generalize readN l r2.2.1 r2.2.2=r3 at a3 k3 ⊢
  have a4:=readN_in l r3.2.1 r3.2.2 hl hb a3;have k4:=readN_ok l r3.2.1 r3.2.2 hb;refine Ev.bind (l9Num_ev l r3.2.1 r3.2.2 hl hb a3) ?_;generalize readN l r3.2.1 r3.2.2=r4 at a4 k4 ⊢
  have a5:=readN_in l r4.2.1 r4.2.2 hl hb a4;have k5:=readN_ok l r4.2.1 r4.2.2 hb;refine Ev.bind (l9Num_ev l r4.2.1 r4.2.2 hl hb a4) ?_;generalize readN l r4.2.1 r4.2.2=r5 at a5 k5 ⊢
  have k6:=readN_ok l r5.2.1 r5.2.2 hb;refine Ev.bind (l9Num_ev l r5.2.1 r5.2.2 hl hb a5) ?_;generalize readN l r5.2.1 r5.2.2=r6 at k6 ⊢
  exact specFin_ev l a _ r6.2.2 _ _ _ _ _ _ _ _ hl hb (fun e=>(k0 (k1 (k2 (k3 (k4 (k5 (k6 e).1).1).1).1).1).1).2)
 ·simp only [if_neg h1]
  by_cases h3:r0.1=3
  ·simp only [if_pos h3]
   refine Ev.bind e2 ?_;exact specFin_ev l a _ r2.2.2 _ _ _ _ _ _ _ _ hl hb (fun e=>(k0 (k1 (k2 e).1).1).2)
  ·simp only [if_neg h3]
   exact specFin_ev l a _ r1.2.2 _ _ _ _ _ _ _ _ hl hb (fun e=>(k0 (k1 e).1).2)
abbrev IN:=S27
theorem rdIN {l:List IN} {i:Nat} {x:IN} (h:l[i]?=some x):rd_T27 l (i:Int)=x:=getD_at h
theorem finM_next (l:List Int) (a:Int) (ok:Bool) (k p r c b q h:Int) (u:Bool) (h1:(finM l a ok k p r c b q h u).2.2.2.2.2.2.2.2.2=true):a<(finM l a ok k p r c b q h u).2.2.2.2.2.2.2.2.1∧(finM l a ok k p r c b q h u).2.2.2.2.2.2.2.2.1≤l.length:=by
 unfold finM at h1 ⊢
 split at h1
 ·rename_i hc
  rw [if_pos hc]
  have:=hc.2.1;have:=hc.2.2.1;dsimp only;omega
 ·cases h1
theorem inOfM_next (l:List Int) (a:Int) (h1:(inOfM l a).2.2.2.2.2.2.2.2.2=true):a<(inOfM l a).2.2.2.2.2.2.2.2.1∧(inOfM l a).2.2.2.2.2.2.2.2.1≤l.length:=by
 unfold inOfM at h1 ⊢
 dsimp only at h1 ⊢
 split at h1
 ·rename_i hc
  rw [if_pos hc]
  exact finM_next _ _ _ _ _ _ _ _ _ _ _ h1
 ·rename_i hc
  rw [if_neg hc]
  split at h1
  ·rename_i hd
   rw [if_pos hd]
   exact finM_next _ _ _ _ _ _ _ _ _ _ _ h1
  ·rename_i hd
   rw [if_neg hd]
   exact finM_next _ _ _ _ _ _ _ _ _ _ _ h1
def inRow (R:Int × Int × Int × Int × Int × Int × Int × Bool × Int × Bool):IN:=⟨R.1,R.2.1,⟨R.2.2.1,R.2.2.2.1,R.2.2.2.2.1,R.2.2.2.2.2.1⟩,R.2.2.2.2.2.2.1,R.2.2.2.2.2.2.2.1⟩
def allOfM (l:List Int):Nat→List IN→Int→List IN × Int
 | 0,acc,a=>(acc,a)
 | n+1,acc,a=>if (inOfM l a).2.2.2.2.2.2.2.2.2=true then allOfM l n (acc++[inRow (inOfM l a)]) (inOfM l a).2.2.2.2.2.2.2.2.1 else (acc,a)
theorem allOfM_length (l:List Int):∀ (n:Nat) (acc:List IN) (a:Int),(acc.length:Int)≤a→a≤l.length→((allOfM l n acc a).1.length:Int)≤l.length
 | 0,acc,a,h,h2=>by simp only [allOfM];omega
 | n+1,acc,a,h,h2=>by
  simp only [allOfM]
  split
  ·rename_i hc
   have hn:=inOfM_next l a hc;refine allOfM_length l n _ _ ?_ hn.2;simp only [List.length_append,List.length_cons,List.length_nil];omega
  ·dsimp only
   omega
theorem allOf_walk (l:List Int) (F:Nat→List IN→Int→Option (List IN × Int)) (G:Nat→Int→Option (Int × Int × Int × Int × Int × Int × Int × Bool × Int × Bool)) (hl:l.length≤4194304)
  (hG:∀ a:Int,0≤a→a≤l.length→Ev (fun k=>G k a) (inOfM l a))
  (hF:∀ k acc a,F (k+1) acc a=(G k a).bind fun t=>(if t.2.2.2.2.2.2.2.2.2=true then (if acc.length<2199023255552 then F k (acc++[inRow t]) t.2.2.2.2.2.2.2.2.1 else none) else some (acc,a))) :
  ∀ (n:Nat) (acc:List IN) (a:Int),0≤a→a≤l.length→(l.length:Int) - a<n→(acc.length:Int)≤a→Ev (fun k=>F k acc a) (allOfM l n acc a)
 | 0,acc,a,h0,h1,h2,h3=>by omega
 | n+1,acc,a,h0,h1,h2,h3=>by
  refine Ev.stepBind (hG a h0 h1) (fun k=>hF k acc a) ?_
  simp only [allOfM]
  by_cases hc:(inOfM l a).2.2.2.2.2.2.2.2.2=true
  ·have hn:=inOfM_next l a hc
   simp only [if_pos hc];refine Ev.congr (fun k=>if_pos (by omega)) ?_
   refine allOf_walk l F G hl hG hF n _ _ (by omega) hn.2 (by omega) ?_
   simp only [List.length_append,List.length_cons,List.length_nil];omega
  ·simp only [if_neg hc]
   exact ev_some fun _=>rfl
theorem implAllOf_ev (l:List Int) (hl:l.length≤4194304) (hb:∀ x∈l,0≤x∧x<256):Ev (fun k=>Z27.f k l) (allOfM l (l.length+1) [] 0):=by
 refine Ev.congr (fun k=>?_) (allOf_walk l (fun k acc a=>Z27.l0 k l acc a) (fun k a=>Z13.f k l a) hl (fun a h0 h1=>implInOf_ev l a hl hb) (fun k acc a=>?_) (l.length+1) [] 0 (by omega) (by omega) (by omega) (by simp))
 ·simp only [Z27.f]
 ·simp only [Z27.l0,inRow]
theorem specAllOf_ev (l:List Int) (hl:l.length≤4194304) (hb:∀ x∈l,0≤x∧x<256):Ev (fun k=>Z30.f k l) (allOfM l (l.length+1) [] 0):=by
 refine Ev.congr (fun k=>?_) (allOf_walk l (fun k acc a=>Z30.l0 k l acc a) (fun k a=>Z7.f k l a) hl (fun a h0 h1=>specInOf_ev l a hl hb ⟨by omega,by omega⟩) (fun k acc a=>?_) (l.length+1) [] 0 (by omega) (by omega) (by omega) (by simp))
 ·simp only [Z30.f]
 ·simp only [Z30.l0,inRow]
def oneB (x:IN):List Int:=inBytesM x.f0 x.f1 x.f2.f0 x.f2.f1 x.f2.f2 x.f2.f3 x.f3 x.f4
def allB:List IN→List Int
 | []=>[]
 | x :: t=>oneB x++allB t
theorem allB_length:∀ l:List IN,(allB l).length≤39*l.length:=by
 intro l
 induction l with
 | nil=>simp [allB]
 | cons x t ih =>
  have:=inBytesM_length x.f0 x.f1 x.f2.f0 x.f2.f1 x.f2.f2 x.f2.f3 x.f3 x.f4;simp only [allB,oneB,List.length_append,List.length_cons];omega
theorem implAllBytes_ev (l:List IN) (h:l.length≤4194304):Ev (fun k=>Z23.f k l) (allB l):=by
 have:=ev_list l (fun k (acc:List Int) i=>Z23.l0 k acc l (l.length:Int) i) (fun acc t=>acc++allB t) (fun i acc=>acc.length≤39*i)
  (fun acc hI=>ev_end fun k=>by simp only [Z23.l0];rw [if_neg (by omega)];simp [allB,Z82.f])
  (fun i acc x t hI hi _ hx ih=>by
   have hl:=inBytesM_length x.f0 x.f1 x.f2.f0 x.f2.f1 x.f2.f2 x.f2.f3 x.f3 x.f4;have e:acc++allB (x :: t)=(acc++oneB x)++allB t:=by simp [allB]
   rw [e]
   refine Ev.step (f:=fun k=>(Z38.f k x.f0 x.f1 x.f2.f0 x.f2.f1 x.f2.f2 x.f2.f3 x.f3 x.f4).bind fun t190=>(if acc.length+t190.length<140737488355328 then (Z23.l0 k (acc++t190) l (l.length:Int) ((i+1:Nat):Int)) else (none))) (fun k=>?_) (Ev.bind (implInBytes_ev _ _ _ _ _ _ _ _) ?_)
   ·simp only [Z23.l0]
    rw [if_pos (by omega),if_pos (by omega),if_pos (by omega),rdIN hx,w64_succ (by omega)]
   ·simp only [if_pos (show acc.length+(inBytesM x.f0 x.f1 x.f2.f0 x.f2.f1 x.f2.f2 x.f2.f3 x.f3 x.f4).length<140737488355328 by omega)]
    exact ih (acc++oneB x) (by simp only [List.length_append,oneB];omega))
  [] (by simp)
 simpa [Z23.f] using this
theorem specAllBytes_ev (l:List IN) (h:l.length≤4194304):Ev (fun k=>Z22.f k l) (allB l):=by
 have:=ev_list l (fun k (acc:List Int) i=>Z22.l0 k l acc i) (fun acc t=>acc++allB t) (fun i acc=>acc.length≤39*i)
  (fun acc hI=>ev_end fun k=>by simp only [Z22.l0];rw [if_neg (by omega)];simp [allB])
  (fun i acc x t hI hi _ hx ih=>by
   have hl:=inBytesM_length x.f0 x.f1 x.f2.f0 x.f2.f1 x.f2.f2 x.f2.f3 x.f3 x.f4;have e:acc++allB (x :: t)=(acc++oneB x)++allB t:=by simp [allB]
   rw [e]
   refine Ev.step (f:=fun k=>(Z28.f k x.f0 x.f1 x.f2.f0 x.f2.f1 x.f2.f2 x.f2.f3 x.f3 x.f4).bind fun t190=>(if acc.length+t190.length<140737488355328 then (Z22.l0 k l (acc++t190) ((i+1:Nat):Int)) else (none))) (fun k=>?_) (Ev.bind (specInBytes_ev _ _ _ _ _ _ _ _) ?_)
   ·simp only [Z22.l0]
    rw [if_pos (by omega),if_pos (by omega),rdIN hx,w64_succ (by omega)]
   ·simp only [if_pos (show acc.length+(inBytesM x.f0 x.f1 x.f2.f0 x.f2.f1 x.f2.f2 x.f2.f3 x.f3 x.f4).length<140737488355328 by omega)]
    exact ih (acc++oneB x) (by simp only [List.length_append,oneB];omega))
  [] (by simp)
 simpa [Z22.f] using this
theorem getM_putM:∀ (n:Nat) (i:Nat) (acc:Int),0≤acc→(0<n∨i=0)→i+(putM n).length≤5→acc+(n:Int)*128 ^ i≤2147483647→getM i acc (putM n)=some (acc+(n:Int)*128 ^ i,i+(putM n).length):=by
 intro n
 induction n using Nat.strongRecOn with
 | ind n ih =>
  intro i acc h0 hn hl hm;have hp:=pow128 i
  by_cases h:n > 127
  ·rw [putM,if_pos h] at hl ⊢
   simp only [List.length_cons] at hl ⊢;rw [getM,if_pos (by omega),if_neg (by omega)]
   have hx:(((n % 128+128:Nat):Int)) % 128=((n % 128:Nat):Int):=by omega
   rw [hx]
   have e:((n:Nat):Int)*128 ^ i=((n % 128:Nat):Int)*128 ^ i+((n / 128:Nat):Int)*128 ^ (i+1):=by
    have hd:(n:Int)=((n % 128:Nat):Int)+128*((n / 128:Nat):Int):=by omega
    rw [Int.pow_succ]
    calc (n:Int)*128 ^ i=(((n % 128:Nat):Int)+128*((n / 128:Nat):Int))*128 ^ i:=by rw [← hd]
     _=((n % 128:Nat):Int)*128 ^ i+128*((n / 128:Nat):Int)*128 ^ i:=Int.add_mul _ _ _
     _=((n % 128:Nat):Int)*128 ^ i+((n / 128:Nat):Int)*(128 ^ i*128):=by
      congr 1
      rw [Int.mul_comm 128,Int.mul_assoc,Int.mul_comm 128]
   have hp2:0≤((n % 128:Nat):Int)*128 ^ i:=Int.mul_nonneg (by omega) (Int.le_of_lt hp)
   rw [ih (n / 128) (by omega) (i+1) _ (by omega) (Or.inl (by omega)) (by omega) (by omega),e]
   congr 1
   refine Prod.ext ?_ ?_
   ·show acc+_+_=acc+(_+_)
    omega
   ·show i+1+_=i+(_+1)
    omega
  ·rw [putM,if_neg h] at hl ⊢
   simp only [List.length_cons,List.length_nil] at hl ⊢;have hx:(n:Int) % 128=(n:Int):=by omega
   rw [getM,if_pos (by omega),if_pos (by omega),hx,if_neg (by omega)]
theorem getNum_putNum (x:Int) (h:0≤x∧x≤2147483647):getNum (putNum x) 0=(x,((putNum x).length:Int),true):=by
 obtain ⟨n,rfl⟩:=Int.eq_ofNat_of_zero_le h.1;unfold putNum getNum
 rw [if_pos h]
 simp only [Int.toNat_natCast];have hs:=putM_short n (by omega)
 have:=getM_putM n 0 0 (by omega) (Or.inr rfl) (by omega) (by simp;omega)
 simp only [Int.pow_zero,Int.mul_one,Int.zero_add,Nat.zero_add] at this;simp [this]
theorem bytes_append (a b:List UInt8):((⟨a.toArray⟩:ByteArray)++⟨b.toArray⟩)=⟨(a++b).toArray⟩:=by
 apply ByteArray.ext
 simp
theorem bytes_size (a:List UInt8):(⟨a.toArray⟩:ByteArray).size=a.length:=by
 simp [ByteArray.size]
theorem strOfNums_one (x:Nat):strOfNums [(x:Int)]=⟨[UInt8.ofNat x].toArray⟩:=by
 simp [strOfNums]
def digs (m:Nat):List UInt8:=if m=0 then [] else Lib.decDigits m
theorem digs_step (m:Nat) (h:m≠0):digs m=digs (m / 10)++[UInt8.ofNat (48+m % 10)]:=by
 unfold digs
 rw [if_neg h]
 by_cases hs:m<10
 ·rw [Lib.decDigits_one hs,if_pos (by omega),Nat.mod_eq_of_lt hs]
  rfl
 ·rw [if_neg (by omega)]
  conv=>lhs;rw [Lib.decDigits]
  rw [dif_neg hs]
def ndigs (m:Nat):Nat:=if m=0 then 0 else Lib.nDigits m
theorem ndigs_step (m:Nat) (h:m≠0):ndigs m=ndigs (m / 10)+1:=by
 unfold ndigs
 rw [if_neg h]
 by_cases hs:m<10
 ·rw [Lib.nDigits_small hs,if_pos (by omega)]
 ·rw [if_neg (by omega),Lib.nDigits_big hs]
theorem ndigs_le (m:Nat) (h:m<18446744073709551616):ndigs m≤20:=by
 unfold ndigs
 split
 ·omega
 ·exact Lib.nDigits_le20 m h
def itoaB (n:Int):ByteArray:=⟨(Lib.itoa n).toArray⟩
theorem implDigits_eq (k:Nat) (n:Int) (h0:-9223372036854775808≤n) (h1:n≤9223372036854775807):Z21.f k n=some (itoaB n):=by
 simp only [Z21.f,Z72.f];rw [if_pos ⟨h0,h1⟩]
 rfl
theorem specDigits_l (m:Nat):∀ (x:Int) (b:Bool) (acc:List UInt8),x.natAbs=m→-9223372036854775808≤x→x≤9223372036854775807→acc.length+ndigs m≤100 →
  Ev (fun k=>Z10.l0 k x b ⟨acc.toArray⟩) ⟨((if b then [45] else [])++digs m++acc).toArray⟩:=by
 induction m using Nat.strongRecOn with
 | ind m ih =>
  intro x b acc hm h0 h1 hacc
  by_cases hx:x=0
  ·subst hx
   have hm0:m=0:=by omega
   subst hm0;refine ev_end fun k=>?_
   simp only [Z10.l0];rw [if_pos trivial]
   cases b with
   | true =>
    rw [if_pos rfl,if_pos (by rw [bytes_size];omega)]
    show some ((⟨[45].toArray⟩:ByteArray)++_)=_
    rw [bytes_append]
    simp [digs]
   | false=>simp [digs]
  ·have hm0:m≠0:=by omega
   have hs:=ndigs_step m hm0;have hd:(Int.tmod x 10).natAbs=m % 10:=by rw [Int.natAbs_tmod,hm];rfl
   have hq:(Int.tdiv x 10).natAbs=m / 10:=by rw [Int.natAbs_tdiv,hm];rfl
   have hq0:-9223372036854775808≤Int.tdiv x 10∧Int.tdiv x 10≤9223372036854775807:=by
    have:m / 10≤922337203685477580:=by omega
    omega
   have rec_:=ih (m / 10) (by omega) (Int.tdiv x 10) b (UInt8.ofNat (48+m % 10) :: acc) hq hq0.1 hq0.2 (by simp;omega)
   have hlt:m % 10<10:=Nat.mod_lt _ (by omega)
   have e:∀ v:Int,v=((48+m % 10:Nat):Int)→(strOfNums [v]:ByteArray)=⟨[UInt8.ofNat (48+m % 10)].toArray⟩:=fun v hv=>by rw [hv,strOfNums_one]
   have fin:∀ v:Int,v=((48+m % 10:Nat):Int)→∀ k,(if (strOfNums [v]).size+(⟨acc.toArray⟩:ByteArray).size≤9223372036854775807 then Z10.l0 k (wrap64 (Int.tdiv x 10)) b (strOfNums [v]++⟨acc.toArray⟩) else none)=Z10.l0 k (Int.tdiv x 10) b ⟨(UInt8.ofNat (48+m % 10) :: acc).toArray⟩:=fun v hv k=>by
    rw [e v hv,bytes_append,bytes_size,bytes_size,if_pos (by simp;omega),w64 hq0.1 hq0.2]
    rfl
   rw [digs_step m hm0]
   rw [List.append_assoc,List.append_assoc]
   rw [List.append_assoc] at rec_
   refine Ev.step (fun k=>?_) rec_
   simp only [Z10.l0];rw [if_neg hx]
   by_cases hneg:Int.tmod x 10<0
   ·rw [if_pos hneg]
    simp only [Option.bind_some];exact fin _ (by rw [w64 (x:=-(Int.tmod x 10)) (by omega) (by omega),w64 (by omega) (by omega)];omega) k
   ·rw [if_neg hneg]
    simp only [Option.bind_some];exact fin _ (by rw [w64 (by omega) (by omega)];omega) k
theorem specDigits_ev (n:Int) (h0:-9223372036854775808≤n) (h1:n≤9223372036854775807):Ev (fun k=>Z10.f k n) (itoaB n):=by
 by_cases hn:n=0
 ·subst hn
  refine ev_some fun k=>?_
  simp only [Z10.f];rw [if_pos trivial]
  unfold itoaB Lib.itoa
  rw [if_neg (by omega)]
  show _=some (⟨(Lib.decDigits 0).toArray⟩:ByteArray)
  rw [Lib.decDigits_one (by omega)]
  rfl
 ·have h:=specDigits_l n.natAbs n (decide (n<0)) [] rfl h0 h1 (by have:=ndigs_le n.natAbs (by omega);simp;omega)
  have e:(⟨((if decide (n<0)=true then [45] else [])++digs n.natAbs++[]).toArray⟩:ByteArray)=itoaB n:=by
   have hz:¬ n.natAbs=0:=by omega
   unfold itoaB Lib.itoa digs
   by_cases hb:n<0
   ·simp only [if_pos hb,if_neg hz,decide_eq_true hb,if_true,List.append_nil]
    rfl
   ·have ht:n.natAbs=n.toNat:=by omega
    simp only [if_neg hb,ht,decide_eq_false hb,List.append_nil,List.nil_append,Bool.false_eq_true,if_false,if_neg (show ¬ n.toNat=0 by omega)]
  rw [e] at h
  refine Ev.congr (fun k=>?_) h
  simp only [Z10.f];rw [if_neg hn]
theorem itoaB_size (n:Int) (h0:-9223372036854775808≤n) (h1:n≤9223372036854775807):(itoaB n).size≤21:=by
 unfold itoaB
 rw [bytes_size]
 exact Lib.itoa_length_le n h0 h1
def vecTextB (a b c d:Int):ByteArray:=((((((itoaB a++(⟨#[46]⟩:ByteArray))++itoaB b)++(⟨#[46]⟩:ByteArray))++itoaB c)++(⟨#[46]⟩:ByteArray))++itoaB d)
theorem dot_size (x:UInt8):(⟨#[x]⟩:ByteArray).size=1:=rfl
theorem in64 {x:Int}:(-9223372036854775808≤x∧x≤9223372036854775807)→(-9223372036854775808≤x∧x≤9223372036854775807):=id
theorem vecTextB_size (a b c d:Int) (ha:-9223372036854775808≤a∧a≤9223372036854775807) (hb:-9223372036854775808≤b∧b≤9223372036854775807) (hc:-9223372036854775808≤c∧c≤9223372036854775807) (hd:-9223372036854775808≤d∧d≤9223372036854775807):(vecTextB a b c d).size≤87:=by
 have s1:=itoaB_size a ha.1 ha.2;have s2:=itoaB_size b hb.1 hb.2;have s3:=itoaB_size c hc.1 hc.2;have s4:=itoaB_size d hd.1 hd.2;simp only [vecTextB,ByteArray.size_append,dot_size];omega
theorem specVecText_ev (a b c d:Int) (ha:-9223372036854775808≤a∧a≤9223372036854775807) (hb:-9223372036854775808≤b∧b≤9223372036854775807) (hc:-9223372036854775808≤c∧c≤9223372036854775807) (hd:-9223372036854775808≤d∧d≤9223372036854775807) :
  Ev (fun k=>Z48.f k a b c d) (vecTextB a b c d):=by
 have s1:=itoaB_size a ha.1 ha.2;have s2:=itoaB_size b hb.1 hb.2;have s3:=itoaB_size c hc.1 hc.2;have s4:=itoaB_size d hd.1 hd.2;obtain ⟨K1,h1⟩:=specDigits_ev a ha.1 ha.2;obtain ⟨K2,h2⟩:=specDigits_ev b hb.1 hb.2;obtain ⟨K3,h3⟩:=specDigits_ev c hc.1 hc.2;obtain ⟨K4,h4⟩:=specDigits_ev d hd.1 hd.2;refine ⟨K1+K2+K3+K4,fun k hk=>?_⟩
 have h1:=h1 k (by omega)
 have h2:=h2 k (by omega)
 have h3:=h3 k (by omega)
 have h4:=h4 k (by omega)
 simp only [Z48.f];simp only [h1,h2,h3,h4];simp only [Option.bind_some,ByteArray.size_append,dot_size];rw [if_pos (by omega),if_pos (by omega),if_pos (by omega),if_pos (by omega),if_pos (by omega),if_pos (by omega)]
 rfl
theorem implVecText_eq (k:Nat) (a b c d:Int) (ha:-9223372036854775808≤a∧a≤9223372036854775807) (hb:-9223372036854775808≤b∧b≤9223372036854775807) (hc:-9223372036854775808≤c∧c≤9223372036854775807) (hd:-9223372036854775808≤d∧d≤9223372036854775807) :
  Z47.f k a b c d=some (vecTextB a b c d):=by
 have s1:=itoaB_size a ha.1 ha.2;have s2:=itoaB_size b hb.1 hb.2;have s3:=itoaB_size c hc.1 hc.2;have s4:=itoaB_size d hd.1 hd.2;simp only [Z47.f];rw [implDigits_eq k a ha.1 ha.2,implDigits_eq k b hb.1 hb.2,implDigits_eq k c hc.1 hc.2,implDigits_eq k d hd.1 hd.2]
 simp only [Option.bind_some,ByteArray.size_append,dot_size];rw [if_pos (by omega),if_pos (by omega),if_pos (by omega),if_pos (by omega),if_pos (by omega),if_pos (by omega)]
 rfl
def claimTextB (p a b c d h:Int):ByteArray:=((((((⟨#[99,108,97,105,109,32]⟩:ByteArray)++itoaB p)++(⟨#[32]⟩:ByteArray))++vecTextB a b c d)++(⟨#[32]⟩:ByteArray))++itoaB h)
theorem six_size (a b c d e f:UInt8):(⟨#[a,b,c,d,e,f]⟩:ByteArray).size=6:=rfl
theorem five_size (a b c d e:UInt8):(⟨#[a,b,c,d,e]⟩:ByteArray).size=5:=rfl
theorem specClaimText_ev (p a b c d h:Int) (hp:-9223372036854775808≤p∧p≤9223372036854775807) (ha:-9223372036854775808≤a∧a≤9223372036854775807) (hb:-9223372036854775808≤b∧b≤9223372036854775807) (hc:-9223372036854775808≤c∧c≤9223372036854775807) (hd:-9223372036854775808≤d∧d≤9223372036854775807) (hh:-9223372036854775808≤h∧h≤9223372036854775807) :
  Ev (fun k=>Z42.f k p a b c d h) (claimTextB p a b c d h):=by
 have s1:=itoaB_size p hp.1 hp.2;have s2:=vecTextB_size a b c d ha hb hc hd;have s3:=itoaB_size h hh.1 hh.2;obtain ⟨K1,h1⟩:=specDigits_ev p hp.1 hp.2;obtain ⟨K2,h2⟩:=specVecText_ev a b c d ha hb hc hd;obtain ⟨K3,h3⟩:=specDigits_ev h hh.1 hh.2;refine ⟨K1+K2+K3,fun k hk=>?_⟩
 have h1:=h1 k (by omega)
 have h2:=h2 k (by omega)
 have h3:=h3 k (by omega)
 simp only [Z42.f];simp only [h1,h2,h3];simp only [Option.bind_some,ByteArray.size_append,dot_size,six_size];rw [if_pos (by omega),if_pos (by omega),if_pos (by omega),if_pos (by omega),if_pos (by omega)]
 rfl
theorem implClaimText_eq (k:Nat) (p a b c d h:Int) (hp:-9223372036854775808≤p∧p≤9223372036854775807) (ha:-9223372036854775808≤a∧a≤9223372036854775807) (hb:-9223372036854775808≤b∧b≤9223372036854775807) (hc:-9223372036854775808≤c∧c≤9223372036854775807) (hd:-9223372036854775808≤d∧d≤9223372036854775807) (hh:-9223372036854775808≤h∧h≤9223372036854775807) :
  Z43.f k p a b c d h=some (claimTextB p a b c d h):=by
 have s1:=itoaB_size p hp.1 hp.2;have s2:=vecTextB_size a b c d ha hb hc hd;have s3:=itoaB_size h hh.1 hh.2;simp only [Z43.f];rw [implDigits_eq k p hp.1 hp.2,implVecText_eq k a b c d ha hb hc hd,implDigits_eq k h hh.1 hh.2]
 simp only [Option.bind_some,ByteArray.size_append,dot_size,six_size];rw [if_pos (by omega),if_pos (by omega),if_pos (by omega),if_pos (by omega),if_pos (by omega)]
 rfl
theorem drawNums_evp (b:List Int) (i q:Int) (h:CurOk b i):EvP (fun k=>Z36.f k b i q) (fun r=>CurOk b r.2.1∧r.1.length≤22∧∀ x∈r.1,0≤x∧x<256):=by
 have key:∀ (d n:Nat) (o:List Int) (i q:Int),n+d=4→CurOk b i→o.length≤5*n→(∀ x∈o,0≤x∧x<256)→EvP (fun k=>Z36.l0 k o (n:Int) b i q) (fun r=>CurOk b r.2.1∧r.1.length≤22∧∀ x∈r.1,0≤x∧x<256):=by
  intro d;have fin:∀ (n:Nat) (o:List Int) (r:Int × Int × Int),n≤4→CurOk b r.2.1→o.length≤5*n→(∀ x∈o,0≤x∧x<256)→EvP (fun k=>(Z44.f b r.2.1 r.2.2 3).bind fun bt249=>(if bt249.1=true then ((Z18.f b bt249.2.1 bt249.2.2 (([0,128,255]:List Int))).bind fun bt255=>((Z3.f b bt255.2.1 bt255.2.2 3).bind fun bt258=>((some (([(bt255.1) % 256,(bt258.1) % 256]:List Int):List Int)).bind fun y261=>(if o.length+y261.length<140737488355328 then (some ((o++y261),bt258.2.1,bt258.2.2)) else (none))))) else (some (o,bt249.2.1,bt249.2.2)))) (fun r=>CurOk b r.2.1∧r.1.length≤22∧∀ x∈r.1,0≤x∧x<256):=by
   intro n o r hn hc ho hb;refine EvP.bind (c:=fun _=>Z44.f b r.2.1 r.2.2 3) (l1Once_evp b _ _ 3 hc) (fun r1 h1=>?_)
   by_cases e:r1.1=true
   ·simp only [if_pos e,Option.bind_some]
    refine EvP.bind (c:=fun _=>Z18.f b r1.2.1 r1.2.2 [0,128,255]) (l1PickInt_evp b _ _ [0,128,255] h1 (by simp)) (fun r2 h2=>?_)
    refine EvP.bind (c:=fun _=>Z3.f b r2.2.1 r2.2.2 3) (l1Below_evp b _ _ 3 h2.1) (fun r3 h3=>?_)
    simp only [List.length_cons,List.length_nil,if_pos (show o.length+(0+1+1)<140737488355328 by omega)]
    refine EvP.now _ ⟨h3.1,by simp;omega,fun x hx=>?_⟩
    rcases List.mem_append.1 hx with hx|hx
    ·exact hb x hx
    ·simp only [List.mem_cons,List.not_mem_nil,or_false] at hx
     rcases hx with rfl|rfl <;> omega
   ·simp only [if_neg e]
    exact EvP.now _ ⟨h1,by dsimp only;omega,hb⟩
  induction d with
  | zero =>
   intro n o i q hn hc ho hb;refine EvP.succ ?_;simp only [Z36.l0];refine EvP.bind (l1Below_evp b i q 4 hc) (fun r hr=>?_)
   have:=hr.2.2 (by omega)
   simp only [if_neg (show ¬ (n:Int)<r.1 by omega)]
   exact fin n o r (by omega) hr.1 ho hb
  | succ d ih =>
   intro n o i q hn hc ho hb;refine EvP.succ ?_;simp only [Z36.l0];refine EvP.bind (l1Below_evp b i q 4 hc) (fun r hr=>?_)
   by_cases hlt:(n:Int)<r.1
   ·simp only [if_pos hlt]
    refine EvP.bind (l1PickInt_evp b _ _ [0,1,127,128,300,2147483647] hr.1 (by simp)) (fun r1 h1=>?_)
    refine EvP.bind (EvP.of (specPutNum_ev r1.1) (P:=fun p=>p=putNum r1.1) rfl) (fun p hp=>?_)
    subst hp;have hs:=putNum_short r1.1;simp only [if_pos (show o.length+(putNum r1.1).length<140737488355328 by omega),w64_succ (show (n:Int)<4611686018427387904 by omega)]
    refine ih (n+1) _ _ _ (by omega) h1.1 (by simp;omega) (fun x hx=>?_)
    rcases List.mem_append.1 hx with hx|hx
    ·exact hb x hx
    ·exact putNum_bytes _ x hx
   ·simp only [if_neg hlt]
    exact fin n o r (by omega) hr.1 ho hb
 simp only [Z36.f];exact key 4 0 [] i q (by omega) h (by simp) (by simp)
theorem l2DentC_evp (b:List Int) (i q:Int) (h:CurOk b i) (l:List Int) (hl:l.length≤4194304) (hb:∀ x∈l,0≤x∧x<256):EvP (fun _=>Z71.f b i q l) (fun r=>(r.1.length≤l.length+1∧∀ x∈r.1,0≤x∧x<256)∧CurOk b r.2.1):=by
 have ew:wrap64 ((l.length:Int)+1)=(l.length:Int)+1:=w64 (by omega) (by omega)
 obtain ⟨t,i1,q1,e1,c1,t0,t1⟩:=l1Below_some b i q ((l.length:Int)+1) h;obtain ⟨u,i2,q2,e2,c2,u0,u1⟩:=l1Below_some b i1 q1 5 c1;have t1:=t1 (by omega)
 have htk:∀ x∈l.take t.toNat,0≤x∧x<256:=fun x hx=>hb x (List.mem_of_mem_take hx)
 have hdr:∀ x∈l.drop t.toNat,0≤x∧x<256:=fun x hx=>hb x (List.mem_of_mem_drop hx)
 have ltk:(l.take t.toNat).length=t.toNat:=by rw [List.length_take];omega
 have ldr:(l.drop t.toNat).length=l.length - t.toNat:=List.length_drop ..;simp only [Z71.f,ew,e1,e2,Option.bind_some]
 by_cases h0:u=0
 ·simp only [if_pos h0,if_pos t0,if_pos (show t≤(l.length:Int) by omega)]
  exact EvP.now _ ⟨⟨by dsimp only;omega,htk⟩,c2⟩
 simp only [if_neg h0]
 by_cases h1:u=1
 ·simp only [if_pos h1,Z67.f,ew,e1,e2,Option.bind_some,if_neg h0,if_pos t0,if_pos (show t≤(l.length:Int) by omega),List.length_nil,List.nil_append,List.length_cons,ltk,ldr,if_pos (show 0+t.toNat<140737488355328 by omega)]
  refine EvP.bind (c:=fun _=>Z18.f b i2 q2 [0,1,128,3]) (l1PickInt_evp b _ _ [0,1,128,3] c2 (by simp)) (fun r3 h3=>?_)
  simp only [if_pos (show 0+1+(l.length - t.toNat)<140737488355328 by omega),List.length_append,List.length_cons,List.length_nil,ltk,ldr,if_pos (show t.toNat+(0+1+(l.length - t.toNat))<140737488355328 by omega)]
  refine EvP.now _ ⟨⟨by simp only [List.length_append,List.length_cons,List.length_nil,ltk,ldr];omega,fun x hx=>?_⟩,h3.1⟩
  rcases List.mem_append.1 hx with hx|hx
  ·exact htk x hx
  ·rcases List.mem_append.1 hx with hx|hx
   ·simp only [List.mem_cons,List.not_mem_nil,or_false] at hx
    subst hx;omega
   ·exact hdr x hx
 ·simp only [if_neg h1]
  exact EvP.now _ ⟨⟨by dsimp only;omega,hb⟩,c2⟩
theorem getM_app:∀ (l t:List Int) (i:Nat) (acc:Int) (r:Int × Nat),getM i acc l=some r→getM i acc (l++t)=some r:=by
 intro l
 induction l with
 | nil=>intro t i acc r h;simp [getM] at h
 | cons x l ih =>
  intro t i acc r h;rw [List.cons_append]
  rw [getM] at h ⊢
  by_cases h5:i<5
  ·rw [if_pos h5] at h ⊢
   by_cases h128:x<128
   ·rw [if_pos h128] at h ⊢
    exact h
   ·rw [if_neg h128] at h ⊢
    exact ih t _ _ r h
  ·rw [if_neg h5] at h
   cases h
theorem getM_put (n:Int) (h0:0≤n) (h1:n≤2147483647):getM 0 0 (putNum n)=some (n,(putNum n).length):=by
 have e:=getNum_putNum n ⟨h0,h1⟩;unfold getNum at e
 rw [if_neg (by omega)] at e
 simp only [Int.toNat_zero,List.drop_zero] at e;cases hg:getM 0 0 (putNum n) with
 | none=>rw [hg] at e;simp at e
 | some r =>
  obtain ⟨m,c⟩:=r;rw [hg] at e
  simp only [Int.zero_add,Prod.mk.injEq,and_true] at e;obtain ⟨e1,e2⟩:=e;subst e1;have:c=(putNum m).length:=by omega
  rw [this]
theorem readN_at {l:List Int} {a:Nat} {n:Int} {rest:List Int} (h:l.drop a=putNum n++rest) (h0:0≤n) (h1:n≤2147483647):readN l (a:Int) true=(n,((a+(putNum n).length:Nat):Int),true):=by
 have e:getNum l (a:Int)=(n,((a+(putNum n).length:Nat):Int),true):=by
  unfold getNum
  rw [if_neg (by omega),Int.toNat_natCast,h,getM_app _ rest _ _ _ (getM_put n h0 h1)]
  simp
 unfold readN
 rw [e]
 simp
theorem drop_next {l x y:List Int} {a:Nat} (h:l.drop a=x++y):l.drop (a+x.length)=y:=by
 rw [← List.drop_drop,h,List.drop_left]
theorem inOk_ways {k p r c b q h:Int} {u:Bool} (hok:inOk k p r c b q h u=true):(k=1∧(0≤p∧p≤3)∧vecOk r c b q=true∧(0≤h∧h≤8)∧u=false)∨(k=3∧(0≤p∧p≤3)∧r=0∧c=0∧b=0∧q=0∧h=0)∨(k=2∧p=0∧r=0∧c=0∧b=0∧q=0∧h=0∧u=false):=by
 unfold inOk at hok
 split at hok
 ·rename_i h1
  simp only [Bool.and_eq_true,decide_eq_true_eq,Bool.not_eq_true'] at hok;exact Or.inl ⟨h1,hok.1.1.1,hok.1.1.2,hok.1.2,hok.2⟩
 ·split at hok
  ·rename_i h3
   simp only [decide_eq_true_eq] at hok;exact Or.inr (Or.inl ⟨h3,⟨hok.1,hok.2.1⟩,hok.2.2.1,hok.2.2.2.1,hok.2.2.2.2.1,hok.2.2.2.2.2.1,hok.2.2.2.2.2.2⟩)
  ·simp only [Bool.and_eq_true,decide_eq_true_eq,Bool.not_eq_true'] at hok
   exact Or.inr (Or.inr ⟨hok.1.1,hok.1.2.1,hok.1.2.2.1,hok.1.2.2.2.1,hok.1.2.2.2.2.1,hok.1.2.2.2.2.2.1,hok.1.2.2.2.2.2.2,hok.2⟩)
theorem inBytes_pos {k p r c b q h:Int} {u:Bool} (hok:inOk k p r c b q h u=true):4≤(inBytesM k p r c b q h u).length:=by
 unfold inBytesM
 rw [if_pos hok]
 simp [summedM,four]
theorem finM_at {k p r c b q h:Int} {u:Bool} (hok:inOk k p r c b q h u=true) {l:List Int} {a:Nat} {post:List Int} (hl:l.drop a=inBytesM k p r c b q h u++post):finM l (a:Int) true k p r c b q h u=(k,p,r,c,b,q,h,u,((a+(inBytesM k p r c b q h u).length:Nat):Int),true):=by
 have hp:=inBytes_pos hok;have hlen:=congrArg List.length hl;rw [List.length_drop,List.length_append] at hlen
 unfold finM
 generalize inBytesM k p r c b q h u=B at hl hp hlen ⊢
 have hn:((a:Int)+(B.length:Int)).toNat=a+B.length:=by omega
 have hc:(l.take ((a:Int)+(B.length:Int)).toNat).drop (a:Int).toNat=B:=by
  rw [hn,Int.toNat_natCast,List.drop_take,hl,Nat.add_sub_cancel_left,List.take_left]
 rw [if_pos ⟨rfl,by omega,by omega,hc⟩]
 simp
theorem inOf_at {k p r c b q h:Int} {u:Bool} (hok:inOk k p r c b q h u=true) {l:List Int} {a:Nat} {post:List Int} (hl:l.drop a=inBytesM k p r c b q h u++post):inOfM l (a:Int)=(k,p,r,c,b,q,h,u,((a+(inBytesM k p r c b q h u).length:Nat):Int),true):=by
 have hfin:=finM_at hok hl;have hB:inBytesM k p r c b q h u=inBody k p r c b q h u++four (sumOf (inBody k p r c b q h u)):=by
  unfold inBytesM
  rw [if_pos hok]
  rfl
 rw [hB] at hl
 rcases inOk_ways hok with ⟨rfl,hp,hv,hh,rfl⟩|⟨rfl,hp,rfl,rfl,rfl,rfl,rfl⟩|⟨rfl,rfl,rfl,rfl,rfl,rfl,rfl,rfl⟩
 ·obtain ⟨v1,v2,v3,v4,v5,v6⟩:=(vecOk_iff r c b q).1 hv
  generalize four (sumOf (inBody 1 p r c b q h false))=S at hl
  have hl:l.drop a=putNum 1++(putNum p++(putNum r++(putNum c++(putNum b++(putNum q++(putNum h++(S++post))))))):=by
   rw [hl]
   simp [inBody,putNumsM,List.append_assoc]
  have e0:=readN_at hl (by omega) (by omega)
  have hl:=drop_next hl;have e1:=readN_at hl (by omega) (by omega)
  have hl:=drop_next hl;have e2:=readN_at hl (by omega) (by omega)
  have hl:=drop_next hl;have e3:=readN_at hl (by omega) (by omega)
  have hl:=drop_next hl;have e4:=readN_at hl (by omega) (by omega)
  have hl:=drop_next hl;have e5:=readN_at hl (by omega) (by omega)
  have hl:=drop_next hl;have e6:=readN_at hl (by omega) (by omega)
  simp only [inOfM,e0,e1,e2,e3,e4,e5,e6,if_true];exact hfin
 ·generalize four (sumOf (inBody 3 p 0 0 0 0 0 u))=S at hl
  have hbit:putNum (if u then 1 else 0)=[if u then 1 else 0]:=by
   have:=putNum_bit u;simpa [putNumsM] using this
  have hl:l.drop a=putNum 3++(putNum p++(putNum (if u then 1 else 0)++(S++post))):=by
   rw [hl,hbit]
   simp [inBody,putNumsM,List.append_assoc]
  have e0:=readN_at hl (by omega) (by omega)
  have hl:=drop_next hl;have e1:=readN_at hl (by omega) (by omega)
  have hl:=drop_next hl;have e2:=readN_at hl (by split <;> omega) (by split <;> omega)
  have hu:((if u=true then (1:Int) else 0) == 1)=u:=by cases u <;> rfl
  simp only [inOfM,e0,e1,e2,hu];rw [if_neg (show ¬ (3:Int)=1 by decide)]
  simp only [if_true];exact hfin
 ·generalize four (sumOf (inBody 2 0 0 0 0 0 0 false))=S at hl
  have hl:l.drop a=putNum 2++(putNum 0++(S++post)):=by
   rw [hl]
   simp [inBody,putNumsM,List.append_assoc]
  have e0:=readN_at hl (by omega) (by omega)
  have hl:=drop_next hl;have e1:=readN_at hl (by omega) (by omega)
  simp only [inOfM,e0,e1];rw [if_neg (show ¬ (2:Int)=1 by decide),if_neg (show ¬ (2:Int)=3 by decide)]
  exact hfin
def okI (x:IN):Bool:=inOk x.f0 x.f1 x.f2.f0 x.f2.f1 x.f2.f2 x.f2.f3 x.f3 x.f4
theorem allOf_at:∀ (rest acc:List IN) (l:List Int) (a n:Nat),(∀ x∈rest,okI x=true)→l.drop a=allB rest→a≤l.length→rest.length<n→allOfM l n acc (a:Int)=(acc++rest,(l.length:Int)):=by
 intro rest
 induction rest with
 | nil =>
  intro acc l a n _ hd ha hn;obtain ⟨m,rfl⟩:∃ m,n=m+1:=⟨n - 1,by omega⟩
  have hla:l.length≤a:=by
   have:=congrArg List.length hd;rw [List.length_drop] at this
   simp only [allB,List.length_nil] at this;omega
  have hno:¬ (inOfM l (a:Int)).2.2.2.2.2.2.2.2.2=true:=fun h=>by
   have:=inOfM_next l (a:Int) h;omega
  simp only [allOfM];rw [if_neg hno,List.append_nil]
  have:a=l.length:=by omega
  rw [this]
 | cons x rest ih =>
  intro acc l a n hok hd ha hn;obtain ⟨m,rfl⟩:∃ m,n=m+1:=⟨n - 1,by omega⟩
  have hx:okI x=true:=hok x (by simp)
  have hd:l.drop a=inBytesM x.f0 x.f1 x.f2.f0 x.f2.f1 x.f2.f2 x.f2.f3 x.f3 x.f4++allB rest:=hd;have e:=inOf_at (l:=l) (a:=a) (post:=allB rest) hx hd;have hlen:=congrArg List.length hd;rw [List.length_drop,List.length_append] at hlen
  have hp:=inBytes_pos hx;simp only [allOfM,e,if_true];rw [ih _ l _ m (fun y hy=>hok y (by simp [hy])) (drop_next hd) (by omega) (by simp only [List.length_cons] at hn;omega)]
  simp only [List.append_assoc,inRow,List.cons_append,List.nil_append]
theorem finM_bytes (l:List Int) (a:Int) (ok:Bool) (k p r c b q h:Int) (u:Bool) (h1:(finM l a ok k p r c b q h u).2.2.2.2.2.2.2.2.2=true):oneB (inRow (finM l a ok k p r c b q h u))=(l.take (finM l a ok k p r c b q h u).2.2.2.2.2.2.2.2.1.toNat).drop a.toNat:=by
 unfold finM at h1 ⊢
 split at h1
 ·rename_i hc
  rw [if_pos hc]
  exact hc.2.2.2.symm
 ·cases h1
theorem inOf_bytes (l:List Int) (a:Int) (h1:(inOfM l a).2.2.2.2.2.2.2.2.2=true):oneB (inRow (inOfM l a))=(l.take (inOfM l a).2.2.2.2.2.2.2.2.1.toNat).drop a.toNat:=by
 unfold inOfM at h1 ⊢
 dsimp only at h1 ⊢
 split at h1
 ·rename_i hc
  rw [if_pos hc]
  exact finM_bytes _ _ _ _ _ _ _ _ _ _ _ h1
 ·rename_i hc
  rw [if_neg hc]
  split at h1
  ·rename_i hd
   rw [if_pos hd]
   exact finM_bytes _ _ _ _ _ _ _ _ _ _ _ h1
  ·rename_i hd
   rw [if_neg hd]
   exact finM_bytes _ _ _ _ _ _ _ _ _ _ _ h1
theorem allB_append (s t:List IN):allB (s++t)=allB s++allB t:=by
 induction s with
 | nil=>rfl
 | cons x s ih=>simp only [List.cons_append,allB,ih,List.append_assoc]
theorem allOf_bytes (l:List Int):∀ (n:Nat) (acc:List IN) (a:Int),0≤a→a≤(l.length:Int)→allB acc=l.take a.toNat→allB (allOfM l n acc a).1=l.take (allOfM l n acc a).2.toNat∧0≤(allOfM l n acc a).2∧(allOfM l n acc a).2≤(l.length:Int):=by
 intro n
 induction n with
 | zero=>intro acc a h0 h1 h;exact ⟨h,h0,h1⟩
 | succ n ih =>
  intro acc a h0 h1 h;simp only [allOfM]
  by_cases hc:(inOfM l a).2.2.2.2.2.2.2.2.2=true
  ·have hn:=inOfM_next l a hc
   have hb:=inOf_bytes l a hc;rw [if_pos hc]
   generalize inOfM l a=R at hn hb ⊢
   refine ih _ _ (by omega) hn.2 ?_
   rw [allB_append,h]
   have e1:allB [inRow R]=oneB (inRow R):=by simp [allB]
   have e2:l.take a.toNat=(l.take R.2.2.2.2.2.2.2.2.1.toNat).take a.toNat:=by rw [List.take_take,Nat.min_eq_left (by omega)]
   rw [e1,hb,e2,List.take_append_drop]
  ·rw [if_neg hc]
   exact ⟨h,h0,h1⟩
theorem allB_bytes (l:List IN):∀ x∈allB l,0≤x∧x<256:=by
 induction l with
 | nil=>simp [allB]
 | cons y l ih =>
  intro x hx;simp only [allB,List.mem_append] at hx
  rcases hx with hx|hx
  ·exact inBytesM_bytes _ _ _ _ _ _ _ _ x hx
  ·exact ih x hx
theorem allB_count (l:List IN) (h:∀ x∈l,okI x=true):l.length≤(allB l).length:=by
 induction l with
 | nil=>simp
 | cons y l ih =>
  have h1:=ih (fun x hx=>h x (by simp [hx]))
  have h2:4≤(oneB y).length:=inBytes_pos (h y (by simp))
  simp only [allB,List.length_append,List.length_cons];omega
theorem l8DrawBent_small (b:List Int) (i q:Int) (h:CurOk b i):EvP (fun _=>Z70.f b i q) (fun r=>CurOk b r.2.2.2.2.2.2.2.2.1∧SmallIn r):=by
 simp only [Z70.f];refine EvP.bind (l8DrawIn_small b i q h) (fun r hr=>?_)
 obtain ⟨hc,s0,s1,s2,s3,s4,s5⟩:=hr;refine EvP.bind (l1Below_evp b _ _ 12 hc) (fun r1 h1=>?_)
 by_cases e0:r1.1=0
 ·simp only [if_pos e0]
  refine EvP.bind (l1Below_evp b _ _ 6 h1.1) (fun r2 h2=>?_)
  exact EvP.now _ ⟨h2.1,s0,s1,s2,s3,s4,s5⟩
 simp only [if_neg e0]
 by_cases e1:r1.1=1
 ·simp only [if_pos e1]
  refine EvP.bind (l1PickInt_evp b _ _ [-1,3,4] h1.1 (by simp)) (fun r2 h2=>?_)
  exact EvP.now _ ⟨h2.1,small_mem h2.2 (by decide),s1,s2,s3,s4,s5⟩
 simp only [if_neg e1]
 by_cases e2:r1.1=2
 ·simp only [if_pos e2]
  obtain ⟨v0,v1,v2,v3,i',q',e,c2,t0,t1,t2,t3⟩:=l6Draw_some b r1.2.1 r1.2.2 h1.1;simp only [e,Option.bind_some];exact EvP.now _ ⟨c2,s0,t0,t1,t2,t3,s5⟩
 simp only [if_neg e2]
 by_cases e3:r1.1=3
 ·simp only [if_pos e3]
  refine EvP.bind (l1PickInt_evp b _ _ [-1,8,9] h1.1 (by simp)) (fun r2 h2=>?_)
  exact EvP.now _ ⟨h2.1,s0,s1,s2,s3,s4,small_mem h2.2 (by decide)⟩
 simp only [if_neg e3];exact EvP.now _ ⟨h1.1,s0,s1,s2,s3,s4,s5⟩
theorem drawList_evp (b:List Int) (i q:Int) (h:CurOk b i):EvP (fun k=>Z31.f k b i q) (fun r=>CurOk b r.2.1∧r.1.length≤6):=by
 have key:∀ (d n:Nat) (o:List IN) (i q:Int),n+d=6→CurOk b i→o.length≤n→EvP (fun k=>Z31.l0 k o (n:Int) b i q) (fun r=>CurOk b r.2.1∧r.1.length≤6):=by
  intro d
  induction d with
  | zero =>
   intro n o i q hn hc ho;refine EvP.succ ?_;simp only [Z31.l0];refine EvP.bind (l1Below_evp b i q 6 hc) (fun r hr=>?_)
   have:=hr.2.2 (by omega)
   simp only [if_neg (show ¬ (n:Int)<r.1 by omega)]
   exact EvP.now _ ⟨hr.1,by dsimp only;omega⟩
  | succ d ih =>
   intro n o i q hn hc ho;refine EvP.succ ?_;simp only [Z31.l0];refine EvP.bind (l1Below_evp b i q 6 hc) (fun r hr=>?_)
   by_cases hlt:(n:Int)<r.1
   ·simp only [if_pos hlt]
    refine EvP.bind (l8DrawIn_evp b _ _ hr.1) (fun r1 h1=>?_)
    simp only [if_pos (show o.length<2199023255552 by omega),w64_succ (show (n:Int)<4611686018427387904 by omega)]
    exact ih (n+1) _ _ _ (by omega) h1 (by simp;omega)
   ·simp only [if_neg hlt]
    exact EvP.now _ ⟨hr.1,by dsimp only;omega⟩
 simp only [Z31.f];exact key 6 0 [] i q (by omega) h (by simp)
theorem drawInBytes_evp (l:List Int) (h:l.length≤4194304):EvP (fun k=>Z59.f k l) (fun _=>True):=by
 obtain ⟨q,hq⟩:=l1New_ev l h;simp only [Z59.f];refine EvP.bind (EvP.of hq (P:=fun r=>r=(l,0,q)) rfl) (fun r hr=>?_)
 subst hr;refine EvP.bind (l8DrawBent_small l 0 q ⟨by omega,by omega,h⟩) (fun r hr=>?_)
 exact EvP.now _ trivial
theorem drawInText_evp (l:List Int) (h:l.length≤4194304):EvP (fun k=>Z62.f k l) (fun r=>Small r.2.1∧Small r.2.2.1∧Small r.2.2.2.1∧Small r.2.2.2.2.1∧Small r.2.2.2.2.2.1∧Small r.2.2.2.2.2.2.1):=by
 obtain ⟨q,hq⟩:=l1New_ev l h;simp only [Z62.f];refine EvP.bind (EvP.of hq (P:=fun r=>r=(l,0,q)) rfl) (fun r hr=>?_)
 subst hr;refine EvP.bind (l8DrawBent_small l 0 q ⟨by omega,by omega,h⟩) (fun r hr=>?_)
 exact EvP.now _ hr.2
theorem drawInOf_evp (l:List Int) (h:l.length≤4194304):EvP (fun k=>Z56.f k l) (fun r=>r.1.length≤100∧(∀ x∈r.1,0≤x∧x<256)∧In64 r.2):=by
 obtain ⟨q,hq⟩:=l1New_ev l h;simp only [Z56.f];refine EvP.bind (EvP.of hq (P:=fun r=>r=(l,0,q)) rfl) (fun r hr=>?_)
 subst hr;refine EvP.bind (l8DrawIn_evp l 0 q ⟨by omega,by omega,h⟩) (fun r hr=>?_)
 refine EvP.bind (EvP.of (specInBytes_ev r.1 r.2.1 r.2.2.1 r.2.2.2.1 r.2.2.2.2.1 r.2.2.2.2.2.1 r.2.2.2.2.2.2.1 r.2.2.2.2.2.2.2.1) (P:=fun z=>z=inBytesM r.1 r.2.1 r.2.2.1 r.2.2.2.1 r.2.2.2.2.1 r.2.2.2.2.2.1 r.2.2.2.2.2.2.1 r.2.2.2.2.2.2.2.1) rfl) (fun z hz=>?_)
 have zl:z.length≤39:=by rw [hz];exact inBytesM_length _ _ _ _ _ _ _ _
 have zb:∀ x∈z,0≤x∧x<256:=by rw [hz];exact inBytesM_bytes _ _ _ _ _ _ _ _
 refine EvP.bind (drawNums_evp l _ _ hr) (fun r1 h1=>?_)
 simp only [if_pos (show z.length+r1.1.length<140737488355328 by omega)]
 refine EvP.bind (l2DentC_evp l _ _ h1.1 (z++r1.1) (by simp only [List.length_append];omega) (fun x hx=>by
  rcases List.mem_append.1 hx with hx|hx
  ·exact zb x hx
  ·exact h1.2.2 x hx)) (fun r2 h2=>?_)
 have h2l:=h2.1.1;rw [List.length_append] at h2l
 refine EvP.bind (l1PickInt_evp l _ _ [0,0,0,1,(r2.1.length:Int),-1,9223372036854775807] h2.2 (by simp)) (fun r3 h3=>?_)
 refine EvP.now _ ⟨by dsimp only;omega,h2.1.2,?_⟩
 have hm:=h3.2;simp only [List.mem_cons,List.not_mem_nil,or_false] at hm
 show -9223372036854775808≤r3.1∧r3.1≤9223372036854775807
 omega
theorem drawAllBytes_evp (l:List Int) (h:l.length≤4194304):EvP (fun k=>Z60.f k l) (fun r=>r.length≤7):=by
 obtain ⟨q,hq⟩:=l1New_ev l h;simp only [Z60.f];refine EvP.bind (EvP.of hq (P:=fun r=>r=(l,0,q)) rfl) (fun r hr=>?_)
 subst hr;refine EvP.bind (drawList_evp l 0 q ⟨by omega,by omega,h⟩) (fun r hr=>?_)
 refine EvP.bind (l1Once_evp l _ _ 5 hr.1) (fun r1 h1=>?_)
 by_cases e:r1.1=true
 ·simp only [if_pos e]
  refine EvP.bind (l8DrawBent_small l _ _ h1) (fun r2 h2=>?_)
  have:=hr.2;simp only [if_pos (show r.1.length<2199023255552 by omega)]
  exact EvP.now _ (by simp;omega)
 ·simp only [if_neg e]
  exact EvP.now _ (by have:=hr.2;omega)
theorem drawAllOf_evp (l:List Int) (h:l.length≤4194304):EvP (fun k=>Z55.f k l) (fun r=>r.length≤300∧∀ x∈r,0≤x∧x<256):=by
 obtain ⟨q,hq⟩:=l1New_ev l h;simp only [Z55.f];refine EvP.bind (EvP.of hq (P:=fun r=>r=(l,0,q)) rfl) (fun r hr=>?_)
 subst hr;refine EvP.bind (drawList_evp l 0 q ⟨by omega,by omega,h⟩) (fun r hr=>?_)
 have hr2:=hr.2;refine EvP.bind (EvP.of (specAllBytes_ev r.1 (by omega)) (P:=fun z=>z=allB r.1) rfl) (fun z hz=>?_)
 have hzl:=allB_length r.1;have hzb:=allB_bytes r.1;rw [← hz] at hzl hzb
 refine EvP.bind (l2DentC_evp l _ _ hr.1 z (by omega) hzb) (fun r2 h2=>?_)
 have h2l:=h2.1.1;exact EvP.now _ ⟨by omega,h2.1.2⟩
def OutIn (z:OB):Prop:=In64 z.f1∧In64 z.f2.f0∧In64 z.f2.f1∧In64 z.f2.f2∧In64 z.f2.f3∧In64 z.f3
theorem in64_0:In64 0:=⟨by omega,by omega⟩
theorem in64_wrap (x:Int):In64 (wrap64 x):=w64_range x
theorem port_in {x:PB} (h:portOk (pprt x)=true):In64 x.f2.f0:=by
 unfold portOk headOk at h
 simp only [Bool.and_eq_true] at h;obtain ⟨h,_⟩:=h;have key:∀ z:Int,z=x.f2.f0→(-100≤z∧z≤100)→In64 x.f2.f0:=fun z e hz=>by subst e;exact ⟨by omega,by omega⟩
 cases hf:(pprt x).has with
 | true =>
  rw [hf] at h
  simp only [if_true,Bool.and_eq_true] at h;have:=(vecOk_iff _ _ _ _).1 h.2.1;exact key (pprt x).r rfl ⟨by omega,by omega⟩
 | false =>
  rw [hf] at h
  simp only [Bool.false_eq_true,if_false,Bool.and_eq_true,decide_eq_true_eq] at h;exact key (pprt x).r rfl ⟨by omega,by omega⟩
theorem ownM_in {id:Int} {l:List PB} (hok:bridgeOk id l=true) (p:Int) (hp:In64 p):In64 (ownM id l p).1∧In64 (ownM id l p).2.1∧In64 (ownM id l p).2.2.1∧In64 (ownM id l p).2.2.2:=by
 have hl:=bridgeOk_len hok;have hid:In64 id:=⟨by omega,by omega⟩
 unfold ownM
 by_cases h:rootM id l (-1) l ≥ 0
 ·rw [if_pos h]
  have hlt:=root_lt id l h;obtain ⟨n,hn⟩:=Int.eq_ofNat_of_zero_le h;rw [hn] at hlt ⊢
  have hx:l[n]?=some l[n]:=List.getElem?_eq_getElem (by omega)
  rw [rdPB hx]
  exact ⟨port_in (bridgeOk_ports hok hx),in64_wrap _,hid,hp⟩
 ·rw [if_neg h]
  exact ⟨hid,in64_0,hid,hp⟩
theorem hopsM_in (id:Int) (l:List PB):In64 (hopsM id l):=by
 unfold hopsM
 split
 ·exact in64_wrap _
 ·exact in64_0
theorem gateAcc_in (old:List PB):∀ (t:List PB) (acc:List OB) (i:Nat),i+t.length≤4194304→(∀ z∈acc,OutIn z)→∀ z∈gateAcc old acc i t,OutIn z:=by
 intro t
 induction t with
 | nil=>intro acc i _ h;exact h
 | cons x t ih =>
  intro acc i hi h;simp only [List.length_cons] at hi;simp only [gateAcc];refine ih _ (i+1) (by omega) ?_
  split
  ·intro z hz
   rcases List.mem_append.1 hz with hz|hz
   ·exact h z hz
   ·simp only [List.mem_cons,List.not_mem_nil,or_false] at hz
    subst hz;exact ⟨⟨by dsimp only;omega,by dsimp only;omega⟩,in64_0,in64_0,in64_0,in64_0,in64_0⟩
  ·exact h
theorem sayAcc_in {id:Int} {l:List PB} (hok:bridgeOk id l=true):∀ (t:List PB) (acc:List OB) (i:Nat),i+t.length≤4194304→(∀ z∈acc,OutIn z)→∀ z∈sayAcc id l acc i t,OutIn z:=by
 intro t
 induction t with
 | nil=>intro acc i _ h;exact h
 | cons x t ih =>
  intro acc i hi h;simp only [List.length_cons] at hi;simp only [sayAcc];refine ih _ (i+1) (by omega) ?_
  split
  ·intro z hz
   rcases List.mem_append.1 hz with hz|hz
   ·exact h z hz
   ·simp only [List.mem_cons,List.not_mem_nil,or_false] at hz
    subst hz;have hi64:In64 (i:Int):=⟨by omega,by omega⟩
    have ho:=ownM_in hok (i:Int) hi64;exact ⟨hi64,ho.1,ho.2.1,ho.2.2.1,ho.2.2.2,hopsM_in id l⟩
  ·exact h
theorem react_in (id:Int) (l:List PB) (hl:l.length≤4194304):∀ z∈(reactM id l 2 0 0 0 0 0 0 false).2.2,OutIn z:=by
 unfold reactM
 split
 ·rename_i hR
  unfold reactOk at hR
  simp only [Bool.and_eq_true,decide_eq_true_eq] at hR;have hok2:=inM_ok hR.1 2 0 0 0 0 0 0 false (by omega) hR.2.2
  have hlen:=inM_length id l 2 0 0 0 0 0 0 false
  show ∀ z∈outsM id l (inM id l 2 0 0 0 0 0 0 false) 2,OutIn z
  unfold outsM
  rw [if_pos rfl]
  exact sayAcc_in hok2 _ _ 0 (by omega) (gateAcc_in l _ _ 0 (by omega) (by simp))
 ·simp
theorem drawOutText_evp (l:List Int) (h:l.length≤4194304):EvP (fun k=>Z32.f k l) (fun r=>In64 r.2.1∧In64 r.2.2.1∧In64 r.2.2.2.1∧In64 r.2.2.2.2.1∧In64 r.2.2.2.2.2.1∧In64 r.2.2.2.2.2.2.1):=by
 obtain ⟨q,hq⟩:=l1New_ev l h;simp only [Z32.f];refine EvP.bind (EvP.of hq (P:=fun r=>r=(l,0,q)) rfl) (fun r hr=>?_)
 subst hr;refine EvP.bind (l8DrawRight_evp l 0 q ⟨by omega,by omega,h⟩) (fun r hr=>?_)
 obtain ⟨hc,hl1,hl4⟩:=hr;refine EvP.bind (EvP.of (specReact_ev r.1 r.2.1 2 0 0 0 0 0 0 false (by omega)) (P:=fun z=>z=reactM r.1 r.2.1 2 0 0 0 0 0 0 false) rfl) (fun z hz=>?_)
 have hin:=react_in r.1 r.2.1 (by omega)
 rw [← hz] at hin
 generalize z.2.2=L at hin ⊢
 have in1:In64 1:=⟨by omega,by omega⟩
 have j0:∀ (bb:Bool) (i q:Int),CurOk l i→(bb=true∨0<L.length)→EvP (fun k=>Z32.j0 k L bb l i q) (fun r=>In64 r.2.1∧In64 r.2.2.1∧In64 r.2.2.2.1∧In64 r.2.2.2.2.1∧In64 r.2.2.2.2.2.1∧In64 r.2.2.2.2.2.2.1):=by
  intro bb i q hc hbb;refine EvP.succ ?_;simp only [Z32.j0]
  by_cases e:bb=true
  ·simp only [if_pos e]
   refine EvP.bind (c:=fun _=>Z3.f l i q 4) (l1Below_evp l i q 4 hc) (fun r1 h1=>?_)
   exact EvP.now _ ⟨in1,in64_0,in64_0,in64_0,in64_0,in64_0⟩
  ·simp only [if_neg e]
   have hpos:0<L.length:=by rcases hbb with hbb|hbb;exact absurd hbb e;exact hbb
   refine EvP.bind (c:=fun _=>Z3.f l i q (L.length:Int)) (l1Below_evp l i q _ hc) (fun r1 h1=>?_)
   have d1:=h1.2.1;have d2:=h1.2.2 (by omega)
   simp only [if_pos d1,if_pos d2];obtain ⟨n,hn⟩:=Int.eq_ofNat_of_zero_le d1;have hx:L[n]?=some L[n]:=List.getElem?_eq_getElem (by omega)
   have e2:rd_T41 L r1.1=L[n]:=by rw [hn];exact getD_at hx
   simp only [e2];exact EvP.now _ (hin _ (List.getElem_mem _))
 by_cases e:(L.length:Int)=0
 ·simp only [if_pos e]
  exact j0 true _ _ hc (Or.inl rfl)
 ·simp only [if_neg e]
  refine EvP.bind (c:=fun _=>Z44.f l r.2.2.1 r.2.2.2 4) (l1Once_evp l _ _ 4 hc) (fun r1 h1=>?_)
  exact j0 _ _ _ h1 (Or.inr (by omega))
theorem inText_same (k p a b c d h:Int) (on:Bool) (hp:In64 p) (ha:In64 a) (hb:In64 b) (hc:In64 c) (hd:In64 d) (hh:In64 h):∃ s,Ev (fun n=>Z64.f n k p a b c d h on) s∧Ev (fun n=>Z57.f n k p a b c d h on) s:=by
 have s1:=itoaB_size p hp.1 hp.2;have h1:=specClaimText_ev p a b c d h hp ha hb hc hd hh;have h2:=specDigits_ev p hp.1 hp.2;have g1:5+(itoaB p).size≤9223372036854775807:=by omega
 have g2:5+(itoaB p).size+3≤9223372036854775807:=by omega
 have g3:5+(itoaB p).size+5≤9223372036854775807:=by omega
 simp only [Z64.f,Z57.f,implClaimText_eq _ p a b c d h hp ha hb hc hd hh,implDigits_eq _ p hp.1 hp.2,Option.bind_some,ByteArray.size_append,five_size,g1,g2,g3,if_true]
 by_cases e1:k=1
 ·simp only [if_pos e1]
  exact ⟨_,ev_some fun _=>rfl,Ev.bind h1 (ev_some fun _=>rfl)⟩
 simp only [if_neg e1]
 by_cases e2:k=2
 ·simp only [if_pos e2]
  exact ⟨_,ev_some fun _=>rfl,ev_some fun _=>rfl⟩
 simp only [if_neg e2]
 by_cases e3:k=3
 ·simp only [if_pos e3]
  by_cases e4:on=true
  ·simp only [if_pos e4]
   exact ⟨_,ev_some fun _=>rfl,Ev.bind h2 (by simp only [five_size,ByteArray.size_append,g1,g2,if_true];exact ev_some fun _=>rfl)⟩
  ·simp only [if_neg e4]
   exact ⟨_,ev_some fun _=>rfl,Ev.bind h2 (by simp only [five_size,ByteArray.size_append,g1,g3,if_true];exact ev_some fun _=>rfl)⟩
 ·simp only [if_neg e3]
  exact ⟨_,ev_some fun _=>rfl,ev_some fun _=>rfl⟩
theorem outText_same (k p a b c d h:Int) (on:Bool) (hp:In64 p) (ha:In64 a) (hb:In64 b) (hc:In64 c) (hd:In64 d) (hh:In64 h):∃ s,Ev (fun n=>Z58.f n k p a b c d h on) s∧Ev (fun n=>Z61.f n k p a b c d h on) s:=by
 have s1:=itoaB_size p hp.1 hp.2;have h1:=specClaimText_ev p a b c d h hp ha hb hc hd hh;have h2:=specDigits_ev p hp.1 hp.2;have g1:5+(itoaB p).size≤9223372036854775807:=by omega
 have g3:5+(itoaB p).size+5≤9223372036854775807:=by omega
 simp only [Z58.f,Z61.f,implClaimText_eq _ p a b c d h hp ha hb hc hd hh,implDigits_eq _ p hp.1 hp.2,Option.bind_some,ByteArray.size_append,five_size,g1,g3,if_true]
 by_cases e1:k=1
 ·simp only [if_pos e1]
  exact ⟨_,ev_some fun _=>rfl,Ev.bind h1 (ev_some fun _=>rfl)⟩
 simp only [if_neg e1]
 by_cases e2:k=2
 ·simp only [if_pos e2]
  by_cases e4:on=true
  ·simp only [if_pos e4]
   exact ⟨_,ev_some fun _=>rfl,Ev.bind h2 (by simp only [five_size,ByteArray.size_append,g1,g3,if_true];exact ev_some fun _=>rfl)⟩
  ·simp only [if_neg e4]
   exact ⟨_,ev_some fun _=>rfl,Ev.bind h2 (by simp only [five_size,ByteArray.size_append,g1,g3,if_true];exact ev_some fun _=>rfl)⟩
 ·simp only [if_neg e2]
  exact ⟨_,ev_some fun _=>rfl,ev_some fun _=>rfl⟩
theorem ins_j4 (k p r c b q h:Int) (u:Bool):Ev (fun n=>Z0.j4 n (inBytesM k p r c b q h u) k p r c b q h u) true:=by
 refine Ev.succ ?_;simp only [Z0.j4,implInOk_eq,Option.bind_some];cases hok:inOk k p r c b q h u with
 | true =>
  simp only [if_true];have hb:=inBytesM_bytes k p r c b q h u;have hl:=inBytesM_length k p r c b q h u;refine Ev.bind (implInOf_ev (inBytesM k p r c b q h u) 0 (by omega) hb) ?_
  have e:=inOf_at (l:=inBytesM k p r c b q h u) (a:=0) (post:=[]) hok (by simp)
  rw [show ((0:Nat):Int)=0 from rfl] at e
  rw [e]
  exact ev_some fun _=>by simp
 | false =>
  have:inBytesM k p r c b q h u=[]:=by unfold inBytesM;rw [hok];rfl
  rw [this]
  exact ev_some fun _=>by simp
theorem ins_l1 (L:List IN) (hL:L.length≤4194304) (k p r c b q h:Int) (u:Bool):Ev (fun n=>Z0.l1 n (inBytesM k p r c b q h u) L L 0 k p r c b q h u) true:=by
 refine ev_list0 L (fun n j=>Z0.l1 n (inBytesM k p r c b q h u) L L j k p r c b q h u) (fun _=>true) ?_ (fun j z t hj _ hz ihj=>?_)
 ·refine Ev.succ ?_
  simp only [Z0.l1,if_neg (show ¬ (L.length:Int)<(L.length:Int) by omega)]
  exact ins_j4 k p r c b q h u
 ·refine Ev.succ ?_
  simp only [Z0.l1,if_pos (show (j:Int)<(L.length:Int) by omega),if_pos (show (0:Int)≤(j:Int) by omega),beq_self_eq_true,Bool.not_true,Bool.or_self,Bool.false_eq_true,if_false,w64_succ (show (j:Int)<4611686018427387904 by omega)]
  exact ihj
theorem ins_l0 (L:List IN) (hL:L.length≤7) (k p r c b q h:Int) (u:Bool):∀ (d j:Nat) (fl:Bool),j+d=L.length→(fl=true→∀ x∈L.take j,okI x=true)→Ev (fun n=>Z0.l0 n (inBytesM k p r c b q h u) L (allB L) fl (j:Int) k p r c b q h u) true:=by
 intro d
 induction d with
 | zero =>
  intro j fl hj hfl;refine Ev.succ ?_;simp only [Z0.l0,if_neg (show ¬ (j:Int)<(L.length:Int) by omega)]
  cases fl with
  | false =>
   simp only [Bool.false_eq_true,if_false];exact ins_j4 k p r c b q h u
  | true =>
   simp only [if_true];have hall:∀ x∈L,okI x=true:=by
    have:=hfl rfl;rw [List.take_of_length_le (by omega)] at this
    exact this
   have hlen:=allB_length L;refine Ev.bind (implAllOf_ev (allB L) (by omega) (allB_bytes L)) ?_
   have hcount:=allB_count L hall;have e:=allOf_at L [] (allB L) 0 ((allB L).length+1) hall (by simp) (by omega) (by omega)
   rw [show ((0:Nat):Int)=0 from rfl] at e
   rw [e]
   simp only [List.nil_append,if_true,bne_self_eq_false];refine Ev.succ ?_;simp only [Z0.j2,Bool.false_eq_true,if_false];exact ins_l1 L (by omega) k p r c b q h u
 | succ d ih =>
  intro j fl hj hfl;have hlt:j<L.length:=by omega
  have hx:L[j]?=some L[j]:=List.getElem?_eq_getElem hlt;refine Ev.succ ?_;simp only [Z0.l0,if_pos (show (j:Int)<(L.length:Int) by omega),w64_succ (show (j:Int)<4611686018427387904 by omega)]
  cases fl with
  | false =>
   simp only [Bool.false_eq_true,if_false];exact ih (j+1) false (by omega) (fun h=>by cases h)
  | true =>
   simp only [if_true,if_pos (show (0:Int)≤(j:Int) by omega),rdIN hx,implInOk_eq,Option.bind_some]
   refine ih (j+1) _ (by omega) (fun hok x hxm=>?_)
   rw [List.take_succ_eq_append_getElem hlt] at hxm
   rcases List.mem_append.1 hxm with hxm|hxm
   ·exact hfl rfl x hxm
   ·simp only [List.mem_cons,List.not_mem_nil,or_false] at hxm
    subst hxm;exact hok
theorem FnIns:FnInsPure:=by
 intro l hlw;refine Ev.rounds ?_;simp only [Z0.f,Z78.f,Option.bind_some]
 by_cases hbig:(l.length:Int) > 1048576
 ·exact ev_some fun _=>by simp [hbig]
 simp only [hbig,decide_false,Bool.false_eq_true,if_false];obtain ⟨⟨k,p,r,c,b,q,h,u⟩,hd1,_⟩:=drawInBytes_evp l (by omega)
 obtain ⟨⟨raw,at_⟩,hd2,hrl,hrb,hat⟩:=drawInOf_evp l (by omega)
 obtain ⟨L,hd3,hL⟩:=drawAllBytes_evp l (by omega)
 obtain ⟨t,hd4,htl,htb⟩:=drawAllOf_evp l (by omega)
 obtain ⟨⟨i0,i1,i2,i3,i4,i5,i6,i7⟩,hd5,n1,n2,n3,n4,n5,n6⟩:=drawInText_evp l (by omega)
 obtain ⟨⟨o0,o1,o2,o3,o4,o5,o6,o7⟩,hd6,m1,m2,m3,m4,m5,m6⟩:=drawOutText_evp l (by omega)
 dsimp only at hrl hrb hat hL htl htb n1 n2 n3 n4 n5 n6 m1 m2 m3 m4 m5 m6;refine Ev.bind hd1 ?_;dsimp only;refine Ev.bind (implInBytes_ev k p r c b q h u) ?_;refine Ev.bind hd2 ?_;dsimp only;refine Ev.bind (implInOf_ev raw at_ (by omega) hrb) ?_
 refine Ev.bind (specInOf_ev raw at_ (by omega) hrb hat) ?_
 refine Ev.bind hd3 ?_;refine Ev.bind (implAllBytes_ev L (by omega)) ?_
 refine Ev.bind hd4 ?_;refine Ev.bind (implAllOf_ev t (by omega) htb) ?_
 refine Ev.bind (specAllOf_ev t (by omega) htb) ?_
 refine Ev.bind hd5 ?_;dsimp only;refine Ev.bind hd6 ?_;dsimp only;refine Ev.bind (specInBytes_ev k p r c b q h u) ?_;simp only [if_true,bne_self_eq_false,Bool.false_eq_true,if_false,beq_self_eq_true,Bool.not_true,Bool.or_self];refine Ev.bind (specAllBytes_ev L (by omega)) ?_
 simp only [if_true];obtain ⟨s1,a1,a2⟩:=inText_same i0 i1 i2 i3 i4 i5 i6 i7 n1.in64 n2.in64 n3.in64 n4.in64 n5.in64 n6.in64;refine Ev.bind a1 ?_;refine Ev.bind a2 ?_;simp only [if_true];obtain ⟨s2,b1,b2⟩:=outText_same o0 o1 o2 o3 o4 o5 o6 o7 m1 m2 m3 m4 m5 m6;refine Ev.bind b1 ?_;refine Ev.bind b2 ?_;simp only [if_true,implInOk_eq,specInOk_eq,Option.bind_some,bne_self_eq_false];refine Ev.succ ?_;simp only [Z0.j0,Bool.false_eq_true,if_false];have hA:=allOf_bytes t (t.length+1) [] 0 (by omega) (by omega) (by simp [allB])
 have hAl:=allOfM_length t (t.length+1) [] 0 (by simp) (by omega)
 generalize allOfM t (t.length+1) [] 0=R at hA hAl ⊢
 obtain ⟨hA1,hA2,hA3⟩:=hA;refine Ev.bind (implAllBytes_ev R.1 (by omega)) ?_
 simp only [if_pos hA2,if_pos hA3,hA1,if_true];exact ins_l0 L hL k p r c b q h u L.length 0 true (by omega) (fun _ x hx=>by simp at hx)
end Go.Proofs.YtljbdchibfjbdaaDoor.Pure
