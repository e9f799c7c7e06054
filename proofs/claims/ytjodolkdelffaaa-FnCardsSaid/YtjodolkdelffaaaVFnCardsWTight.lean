/- Of the proof of laws.FnCards: words for what its walks say over and over. No condition beyond what its theorems say. -/
import Derived.Test.YtjodolkdelffaaaVFnCardsWWords
import Derived.Test.YtjodolkdelffaaaVFnCardsWLast
import Derived.Test.YtjodolkdelffaaaVFnCardsWTab
import Derived.Test.YtjodolkdelffaaaVFnCardsWApart
import Derived.Test.YtjodolkdelffaaaVFnCardsWArr
import Derived.Test.YtjodolkdelffaaaVFnCardsWZeros
import Derived.Test.YtjodolkdelffaaaVFnCardsWFoot
import Derived.Test.YtjodolkdelffaaaVFnCardsWKept
import Derived.Test.YtjodolkdelffaaaVFnCardsWShare
import Derived.Test.YtjodolkdelffaaaVFnCardsWN
import Derived.Test.YtjodolkdelffaaaVFnCardsWEqStruct
import Derived.Test.YtjodolkdelffaaaVFnCardsWRepsOne
import Derived.Test.YtjodolkdelffaaaVFnCardsWInv
import Derived.Test.YtjodolkdelffaaaVFnCardsWGuard
import Derived.Test.YtjodolkdelffaaaVFnCardsWNEv
import Derived.Test.YtjodolkdelffaaaVFnCardsWMore
namespace Go.Proofs.YtjodolkdelffaaaW.PrintWords
open Go.RowKit Go.Proofs.YtjodolkdelffaaaW.PrintLast Go.Proofs.YtjodolkdelffaaaW.PrintMore
theorem cA2 {w:World} {g:Nat} {t:TypeId} {v0 v1:Value} (h:w.heap[g]?=some (.cells #[v0,v1] t (0,0))):w.cell? ⟨g,0,none⟩=some v0∧w.cell? ⟨g,1,none⟩=some v1∧w.frozen? ⟨g,0,none⟩=false∧w.frozen? ⟨g,1,none⟩=false:=⟨cI h 0,cI h 1,blk_frozen h 0,blk_frozen h 1⟩
theorem cA3 {w:World} {g:Nat} {t:TypeId} {v0 v1 v2:Value} (h:w.heap[g]?=some (.cells #[v0,v1,v2] t (0,0))):w.cell? ⟨g,0,none⟩=some v0∧w.cell? ⟨g,1,none⟩=some v1∧w.cell? ⟨g,2,none⟩=some v2∧w.frozen? ⟨g,0,none⟩=false∧w.frozen? ⟨g,1,none⟩=false∧w.frozen? ⟨g,2,none⟩=false:=⟨cI h 0,cI h 1,cI h 2,blk_frozen h 0,blk_frozen h 1,blk_frozen h 2⟩
theorem cA4 {w:World} {g:Nat} {t:TypeId} {v0 v1 v2 v3:Value} (h:w.heap[g]?=some (.cells #[v0,v1,v2,v3] t (0,0))):w.cell? ⟨g,0,none⟩=some v0∧w.cell? ⟨g,1,none⟩=some v1∧w.cell? ⟨g,2,none⟩=some v2∧w.cell? ⟨g,3,none⟩=some v3∧w.frozen? ⟨g,0,none⟩=false∧w.frozen? ⟨g,1,none⟩=false∧w.frozen? ⟨g,2,none⟩=false∧w.frozen? ⟨g,3,none⟩=false:=⟨cI h 0,cI h 1,cI h 2,cI h 3,blk_frozen h 0,blk_frozen h 1,blk_frozen h 2,blk_frozen h 3⟩
abbrev cS4 (w:World) (g:Nat) (v0 v1 v2 v3:Value):Prop:=w.cell? ⟨g,0,none⟩=some v0∧w.cell? ⟨g,1,none⟩=some v1∧w.cell? ⟨g,2,none⟩=some v2∧w.cell? ⟨g,3,none⟩=some v3
abbrev cT4 (w:World) (g:Nat) (v0 v1 v2 v3:Value) (p:Prop):Prop:=w.cell? ⟨g,0,none⟩=some v0∧w.cell? ⟨g,1,none⟩=some v1∧w.cell? ⟨g,2,none⟩=some v2∧w.cell? ⟨g,3,none⟩=some v3∧p
abbrev cS3 (w:World) (g:Nat) (v0 v1 v2:Value):Prop:=w.cell? ⟨g,0,none⟩=some v0∧w.cell? ⟨g,1,none⟩=some v1∧w.cell? ⟨g,2,none⟩=some v2
abbrev cT3 (w:World) (g:Nat) (v0 v1 v2:Value) (p:Prop):Prop:=w.cell? ⟨g,0,none⟩=some v0∧w.cell? ⟨g,1,none⟩=some v1∧w.cell? ⟨g,2,none⟩=some v2∧p
abbrev cS2 (w:World) (g:Nat) (v0 v1:Value):Prop:=w.cell? ⟨g,0,none⟩=some v0∧w.cell? ⟨g,1,none⟩=some v1
abbrev cT2 (w:World) (g:Nat) (v0 v1:Value) (p:Prop):Prop:=w.cell? ⟨g,0,none⟩=some v0∧w.cell? ⟨g,1,none⟩=some v1∧p
theorem fm {W W':World} {g:Nat} {t:TypeId} {cs:Array Value} (h:W.heap[g]?=some (.cells cs t (0,0))) (hs:W.heap[g]?=some (.cells cs t (0,0))→W'.heap[g]?=some (.cells cs t (0,0)):=by intro h;repeat (first|(with_reducible first|exact h|refine blk_drewN ?_ _|refine blk_drew ?_|refine blk_alloc ?_ _|refine blk_far ?_ (Aside0.out (by assumption)) _))):W'.heap[g]?=some (.cells cs t (0,0)):=hs h
theorem exl {α:Type} {l:List α} {n:Nat} (h:l.length=n+1):∃ a t,l=a :: t:=by cases l with|nil=>simp at h|cons a t=>exact ⟨a,t,rfl⟩
def HasB (w:World) (g:Nat) (t:TypeId) (k:Nat):Prop:=∃ cs:Array Value,cs.size=k∧w.heap[g]?=some (.cells cs t (0,0))
theorem HasB.drewN {w:World} {g k:Nat} {t:TypeId} (h:HasB w g t k) (n:Nat):HasB (w.drewN n) g t k:=h
theorem HasB.drew {w:World} {g k:Nat} {t:TypeId} (h:HasB w g t k):HasB w.drew g t k:=h
theorem HasB.alloc {w:World} {g k:Nat} {t:TypeId} (h:HasB w g t k) (o:Obj):HasB (w.alloc o) g t k:=by obtain ⟨cs,hk,h⟩:=h;exact ⟨cs,hk,blk_alloc h o⟩
theorem HasB.far {w:World} {g k:Nat} {t:TypeId} (h:HasB w g t k) {p:Addr} (hp:g≠p.block) (u:Value):HasB (w.setCell p u) g t k:=by obtain ⟨cs,hk,h⟩:=h;exact ⟨cs,hk,blk_far h hp u⟩
theorem HasB.of {w:World} {g k:Nat} {t:TypeId} {cs:Array Value} (h:w.heap[g]?=some (.cells cs t (0,0))) (hk:cs.size=k):HasB w g t k:=⟨cs,hk,h⟩
theorem km {w W W':World} {g:Nat} {row:Option Nat} (h:KeepBut w W g row) (hs:KeepBut w W g row→KeepBut w W' g row:=by intro h;repeat (first|(with_reducible first|exact h|apply KeepBut.set_|apply keep_drewN|apply keep_drew|apply keep_alloc|refine keep_far ?_ (Aside0.out (by assumption)) _)|exact h)):KeepBut w W' g row:=hs h
theorem kk {w W W':World} {S:Nat→Prop} (h:Kept w W S) (hs:Kept w W S→Kept w W' S:=by intro h;repeat (first|(with_reducible first|exact h|apply Kept.alloc|apply Kept.drewN|apply Kept.drew|refine Kept.setCell ?_ (.inr (Aside0.out (by assumption))) _)|exact h)):Kept w W' S:=hs h
section
variable {P:Program} {ops:Array Oper} {Q:Exit→Act→World→Prop} {rest:List Oper} {o oi:Oper} {a:Act} {w W:World}
theorem gC {f:FuncId} {as:Array Operand} {ts:Array TypeId} (_ho:o.op=.call { callee:=.value (.func f),args:=as,argTypes:=ts }) (h:wpList P ops Q (o :: rest) a W):wpList P ops Q (o :: rest) a W:=h
theorem gD {N:Tmp} (_hN:o.dst=some N) (h:wpList P ops Q (o :: rest) a W):wpList P ops Q (o :: rest) a W:=h
theorem gL (N : Option Tmp) {f : FuncId} {fn : Func} (hf : P.funcs[f]? = some fn) (args : Array Value) {as : Array Operand} {ts : Array TypeId} (h : Calls P f args w fun e w' => ∃ v, e = .returned v ∧ wpList P ops Q rest (a.put N v) w') (hd : oi.dst = N := by rfl) (hg : oi.guard = none := by rfl) (hname : (fn.name == "runtime.NumGoroutine") = false := by kernel_rfl) (hb : fn.body.isSome = true := by rfl)
  (hop:oi.op=.call { callee:=.value (.func f),args:=as,argTypes:=ts }:=by rfl) (hargs:as.map a.eval=args:=by (try simp only [List.map_toArray,List.map_cons,List.map_nil]);first|done|rfl|(simp only [List.length_drop,List.length_take];rfl)):wpList P ops Q (oi :: rest) a w:=goesL_ N hd hg hf hname hb args hop hargs h
theorem bE {N:Tmp} {cs:Array Value} {t:TypeId} (h:∀ g,g=W.heap.size→∀ w1,w1.heap[g]?=some (.cells cs t (0,0))→Below W.heap.size W w1→wpList P ops Q rest (a.put o.dst (.pointer (some ⟨g,0,none⟩))) w1)
  (hgd:o.guard=none:=by rfl) (_hd:o.dst=some N:=by rfl) (hrun:(execOp a.eval o).run P W=.ok (.value (.pointer (some ⟨W.heap.size,0,none⟩))) (W.alloc (.cells cs t (0,0))):=by first|(go_simp;done)|(go_simp;rfl)):wpList P ops Q (o :: rest) a W:=box_event hgd _hd hrun h
theorem bR {R_:Prop} (ho:Aside0 R_) {N:Tmp} {cs:Array Value} {t:TypeId} (h:∀ g,g=W.heap.size→∀ w1,w1.heap[g]?=some (.cells cs t (0,0))→Below W.heap.size W w1→wpList P ops Q rest (a.put o.dst (.pointer (some ⟨g,0,none⟩))) w1)
  (hgd:o.guard=none:=by rfl) (_hd:o.dst=some N:=by rfl) (hrun:R_→(execOp a.eval o).run P W=.ok (.value (.pointer (some ⟨W.heap.size,0,none⟩))) (W.alloc (.cells cs t (0,0))):=by first|(intro h_;clear h_;go_simp;done)|(intro h_;clear h_;go_simp;rfl)|(intro h_;obtain ⟨A_,c_,e_⟩:=Kd.R_slice h_;subst e_;(first|(go_simp;done)|(go_simp;rfl)))|(intro h_;obtain ⟨A_,c_,e_⟩:=Kd.S_slice h_;subst e_;(first|(go_simp;done)|(go_simp;rfl)))):wpList P ops Q (o :: rest) a W:=box_event hgd _hd (hrun ho.out) h
theorem nW {c:Code} (C:World→Prop) (hC:C w) (h:∀ W,C W→c.wp P Q a W):c.wp P Q a w:=h w hC
end
section
variable {α:Type} {d:Kd α} {e base B m g g' a b:Nat} {ok S:Nat→Prop} {w w0 w1 W w':World} {v:Value} {xs:List α} {o:Obj} {row:Option Nat}
theorem gE (hg:g=W.heap.size) (h:w.heap.size≤W.heap.size):Aside0 (w.heap.size≤g):=⟨by rw [hg];exact h⟩
theorem gE2 (h0:w0.heap.size≤w.heap.size) (hg:g=W.heap.size) (h:w.heap.size≤W.heap.size):Aside0 (w0.heap.size≤g):=⟨Nat.le_trans h0 (by rw [hg];exact h)⟩
theorem nL (hg:g=W.heap.size) (h:a<W.heap.size):Aside0 (a≠g):=⟨by rw [hg];exact Nat.ne_of_lt h⟩
theorem nG (hg:g=W.heap.size) (h:a<W.heap.size):Aside0 (g≠a):=⟨by rw [hg];exact Nat.ne_of_gt h⟩
theorem qR (hq:w.drewN m=w') (h:d.R e w base ok v xs):Aside0 (d.R e w' base ok v xs):=⟨by subst hq;exact Kd.R_drewN h m⟩
theorem qB (hq:w.drewN m=w') (h:w.heap[g]?=some o):Aside0 (w'.heap[g]?=some o):=⟨by subst hq;exact h⟩
theorem qL (hq:w.drewN m=w') (h:Below B w0 w):Aside0 (Below B w0 w'):=⟨by subst hq;exact pw_below_drewN h m⟩
theorem qK (hq:w.drewN m=w') (h:Kept w0 w S):Aside0 (Kept w0 w' S):=⟨by subst hq;exact Kept.drewN h m⟩
theorem qU (hq:w.drewN m=w') (h:KeepBut w0 w g row):Aside0 (KeepBut w0 w' g row):=⟨by subst hq;exact keep_drewN h m⟩
theorem xB {p:Addr} {u:Value} (hb:Aside0 (Below w.heap.size w W)) (h:w.cell? p=some u):W.cell? p=some u:=(hb.out.cell (World.block_lt_of_cell? w _ h)).trans h
theorem cm {p:Addr} {u:Value} (h:w.cell? p=some u) (hs:w.cell? p=some u→W.cell? p=some u:=by intro h;repeat (first|(with_reducible exact h)|(with_reducible refine (cell_far (Aside0.out (by assumption)) _).trans ?_)|refine (cell_far (Aside0.out (by assumption)) _).trans ?_)):W.cell? p=some u:=hs h
end
section
variable {P:Program} {md:Region.Mode} {ops:Array Oper} {Q:Exit→Act→World→Prop} {S:World→Prop} {ds:List Nat} {T:Bool × List (List Nat × List Nat)} {B:List Nat} {i:Nat} {N:Option Tmp} {oi:Oper} {v:Value} {fuel:Nat} {l:Array Bool} {a a':Act} {w:World}
theorem pY (l':Array Bool) (hT:Aside0 (rtab md ops=T)) (h:wpAnyLast P md ops Q S ds fuel l' a' w) (hi:ops[i]?=some oi:=by rfl) (hN:oi.dst=N:=by rfl) (hc:anyT T l.toList l'.toList i=true:=by kernel_rfl)
    (hy1:Region.wanted oi (yielded ops a.tmps)=true:=by rfl) (hy2:∀ w,(execOp a.eval oi).run P w=.ok (.value v) w:=by intro w';go_simp;with_reducible rfl)
    (hQ:∀ c a w,Q (.panic c) (a.put oi.dst v) w→Q (.panic c) a w:=by exact fun _ _ _ h=>h) (ha:a.put N v=a':=by simp only [Act.put,sA,sZ,sS,i64_w,i32_w];rfl):wpAnyLast P md ops Q S ds (fuel+1) l a w :=
  pure_ _ hi hN (any_of hT.out hc) hQ (Or.inl ⟨hy1,hy2⟩) ha h
theorem pU (l':Array Bool) (hT:Aside0 (rtab md ops=T)) (h:wpAnyLast P md ops Q S ds fuel l' a' w) (hi:ops[i]?=some oi:=by rfl) (hN:oi.dst=N:=by rfl) (hc:anyT T l.toList l'.toList i=true:=by kernel_rfl)
    (hy1:Region.wanted oi (yielded ops a.tmps)=false:=by rfl) (hQ:∀ c a w,Q (.panic c) (a.put oi.dst undef) w→Q (.panic c) a w:=by exact fun _ _ _ h=>h) (ha:a.put N undef=a':=by simp only [Act.put,sA,sZ,sS,i64_w,i32_w];rfl):wpAnyLast P md ops Q S ds (fuel+1) l a w :=
  pure_ _ hi hN (any_of hT.out hc) hQ (Or.inr ⟨hy1,rfl⟩) ha h
theorem aY (l':Array Bool) (hT:Aside0 (rtab md ops=T)) (hB:Aside0 (waitsOk T.2 B=true)) (hS:S w) (h:wpAnyLast P md ops Q S ds fuel l' a' w) (hi:ops[i]?=some oi:=by rfl) (hN:oi.dst=N:=by rfl) (hc:takeW T B ds l.toList l'.toList i=true:=by kernel_rfl)
    (hy1:Region.wanted oi (yielded ops a.tmps)=true:=by rfl) (hy2:∀ w,S w→(execOp a.eval oi).run P w=.ok (.value v) w:=by intro w' h_;(repeat (have s_:=h_.1;replace h_:=h_.2));go_simp;with_reducible rfl)
    (hQ:∀ c a w,Q (.panic c) (a.put oi.dst v) w→Q (.panic c) a w:=by exact fun _ _ _ h=>h) (ha:a.put N v=a':=by simp only [Act.put,sA,sZ,sS,i64_w,i32_w];rfl):wpAnyLast P md ops Q S ds (fuel+1) l a w :=
  take_ _ hi hN (take_ofW hT.out hB.out hc) hQ (Or.inl ⟨hy1,hy2⟩) hS ha h
theorem aU (l':Array Bool) (hT:Aside0 (rtab md ops=T)) (hB:Aside0 (waitsOk T.2 B=true)) (hS:S w) (h:wpAnyLast P md ops Q S ds fuel l' a' w) (hi:ops[i]?=some oi:=by rfl) (hN:oi.dst=N:=by rfl) (hc:takeW T B ds l.toList l'.toList i=true:=by kernel_rfl)
    (hy1:Region.wanted oi (yielded ops a.tmps)=false:=by rfl) (hQ:∀ c a w,Q (.panic c) (a.put oi.dst undef) w→Q (.panic c) a w:=by exact fun _ _ _ h=>h) (ha:a.put N undef=a':=by simp only [Act.put,sA,sZ,sS,i64_w,i32_w];rfl):wpAnyLast P md ops Q S ds (fuel+1) l a w :=
  take_ _ hi hN (take_ofW hT.out hB.out hc) hQ (Or.inr ⟨hy1,rfl⟩) hS ha h
theorem pZ (i k:Nat) (l':Array Bool) (hT:Aside0 (rtab md ops=T)) (h:wpAnyLast P md ops Q S ds fuel l' a' w) (hi:ops[i]?=some oi:=by rfl) (hN:oi.dst=some k:=by rfl) (hc:anyT T l.toList l'.toList i=true:=by kernel_rfl)
    (hy1:Region.wanted oi (yielded ops a.tmps)=true:=by rfl) (hy2:∀ w,(execOp a.eval oi).run P w=.ok (.value v) w:=by intro w';go_simp;with_reducible rfl)
    (hQ:∀ c a w,Q (.panic c) (a.put oi.dst v) w→Q (.panic c) a w:=by exact fun _ _ _ h=>h) (ha:a.put (some k) v=a':=by simp only [Act.put,sA,sZ,sS,i64_w,i32_w];rfl):wpAnyLast P md ops Q S ds (fuel+1) l a w :=
  pure_ _ hi hN (any_of hT.out hc) hQ (Or.inl ⟨hy1,hy2⟩) ha h
theorem aZ (i k:Nat) (l':Array Bool) (hT:Aside0 (rtab md ops=T)) (hB:Aside0 (waitsOk T.2 B=true)) (hS:S w) (h:wpAnyLast P md ops Q S ds fuel l' a' w) (hi:ops[i]?=some oi:=by rfl) (hN:oi.dst=some k:=by rfl) (hc:takeW T B ds l.toList l'.toList i=true:=by kernel_rfl)
    (hy1:Region.wanted oi (yielded ops a.tmps)=true:=by rfl) (hy2:∀ w,S w→(execOp a.eval oi).run P w=.ok (.value v) w:=by intro w' h_;(repeat (have s_:=h_.1;replace h_:=h_.2));go_simp;with_reducible rfl)
    (hQ:∀ c a w,Q (.panic c) (a.put oi.dst v) w→Q (.panic c) a w:=by exact fun _ _ _ h=>h) (ha:a.put (some k) v=a':=by simp only [Act.put,sA,sZ,sS,i64_w,i32_w];rfl):wpAnyLast P md ops Q S ds (fuel+1) l a w :=
  take_ _ hi hN (take_ofW hT.out hB.out hc) hQ (Or.inl ⟨hy1,hy2⟩) hS ha h
end
theorem cF {w W:World} {p:Addr} {u u':Value} {g i:Nat} (hw:w.cell? p=some u') (hG:w.heap.size≤g):(W.setCell ⟨g,i,none⟩ u).cell? p=W.cell? p:=cell_far (Nat.ne_of_lt (Nat.lt_of_lt_of_le (World.block_lt_of_cell? w _ hw) hG)) u
theorem nX {G:Exit→Act→World→Prop} {e:Exit} {a:Act} {w:World} (C:World→Prop) (hC:C w) (h:∀ W,C W→G e a W):G e a w:=h w hC
theorem fR {α:Type} {d:Kd α} {e base:Nat} {ok:Nat→Prop} {v:Value} {xs:List α} {W W':World} {g:Nat} {t:TypeId} {cs:Array Value} (ho:d.R e W base ok v xs) (h:W.heap[g]?=some (.cells cs t (0,0))) (ht:e≠t:=by decide) (hs:some g≠v.ownBlock→W.heap[g]?=some (.cells cs t (0,0))→W'.heap[g]?=some (.cells cs t (0,0)):=by intro hn h;repeat (first|(with_reducible first|exact h|refine blk_drewN ?_ _|refine blk_drew ?_|refine blk_alloc ?_ _|refine blk_far ?_ (Aside0.out (by assumption)) _)|(refine blk_far ?_ (fun e_=>hn (by rw [e_];rfl)) _))):W'.heap[g]?=some (.cells cs t (0,0)):=hs (Kd.R_ne ho h ht) h
theorem hB {α β:Type} {x:Option α} {f:α→Option β} {r:β} (H:x.bind f=some r):∃ a,x=some a∧f a=some r:=Option.bind_eq_some_iff.mp H
theorem hP {α:Type} {c:Prop} {i_:Decidable c} {a b r:α} (H:@ite α c i_ a b=r) (h:c):a=r:=by rw [if_pos h] at H;exact H
theorem hN {α:Type} {c:Prop} {i_:Decidable c} {a b r:α} (H:@ite α c i_ a b=r) (h:¬ c):b=r:=by rw [if_neg h] at H;exact H
theorem hS {α β:Type} {x:α} {f:α→Option β} {r:β} (H:(some x).bind f=some r):∃ a,a=x∧f a=some r:=⟨x,rfl,H⟩
theorem pA2 {w:World} {g:Nat} {t:TypeId} {v0 v1:Value} (h:HasB w g t 2):((w.setCell ⟨g,0,none⟩ v0).setCell ⟨g,1,none⟩ v1).heap[g]?=some (.cells #[v0,v1] t (0,0)):=by
  obtain ⟨cs,hk,h⟩:=h;obtain ⟨l⟩:=cs;replace hk:l.length=2:=hk;obtain ⟨o0,l,rfl⟩:=exl hk;replace hk:l.length=1:=by simpa using hk
  obtain ⟨o1,l,rfl⟩:=exl hk;replace hk:l.length=0:=by simpa using hk
  obtain rfl:=List.eq_nil_of_length_eq_zero hk;have:=(blk_set (blk_set h 0 v0) 1 v1);simp only [sA,sZ,sS] at this;exact this
theorem pA3 {w:World} {g:Nat} {t:TypeId} {v0 v1 v2:Value} (h:HasB w g t 3):(((w.setCell ⟨g,0,none⟩ v0).setCell ⟨g,1,none⟩ v1).setCell ⟨g,2,none⟩ v2).heap[g]?=some (.cells #[v0,v1,v2] t (0,0)):=by
  obtain ⟨cs,hk,h⟩:=h;obtain ⟨l⟩:=cs;replace hk:l.length=3:=hk;obtain ⟨o0,l,rfl⟩:=exl hk;replace hk:l.length=2:=by simpa using hk
  obtain ⟨o1,l,rfl⟩:=exl hk;replace hk:l.length=1:=by simpa using hk
  obtain ⟨o2,l,rfl⟩:=exl hk;replace hk:l.length=0:=by simpa using hk
  obtain rfl:=List.eq_nil_of_length_eq_zero hk;have:=(blk_set (blk_set (blk_set h 0 v0) 1 v1) 2 v2);simp only [sA,sZ,sS] at this;exact this
theorem pA4 {w:World} {g:Nat} {t:TypeId} {v0 v1 v2 v3:Value} (h:HasB w g t 4):((((w.setCell ⟨g,0,none⟩ v0).setCell ⟨g,1,none⟩ v1).setCell ⟨g,2,none⟩ v2).setCell ⟨g,3,none⟩ v3).heap[g]?=some (.cells #[v0,v1,v2,v3] t (0,0)):=by
  obtain ⟨cs,hk,h⟩:=h;obtain ⟨l⟩:=cs;replace hk:l.length=4:=hk;obtain ⟨o0,l,rfl⟩:=exl hk;replace hk:l.length=3:=by simpa using hk
  obtain ⟨o1,l,rfl⟩:=exl hk;replace hk:l.length=2:=by simpa using hk
  obtain ⟨o2,l,rfl⟩:=exl hk;replace hk:l.length=1:=by simpa using hk
  obtain ⟨o3,l,rfl⟩:=exl hk;replace hk:l.length=0:=by simpa using hk
  obtain rfl:=List.eq_nil_of_length_eq_zero hk;have:=(blk_set (blk_set (blk_set (blk_set h 0 v0) 1 v1) 2 v2) 3 v3);simp only [sA,sZ,sS] at this;exact this
theorem bm {W W':World} {g:Nat} {t:TypeId} {cs cs':Array Value} (h:W.heap[g]?=some (.cells cs t (0,0))) (hs:W.heap[g]?=some (.cells cs t (0,0))→W'.heap[g]?=some (.cells cs' t (0,0)):=by intro h;repeat (with_reducible first|exact h|exact HasB.of h rfl|refine blk_drewN ?_ _|refine blk_drew ?_|refine blk_alloc ?_ _|refine HasB.drewN ?_ _|refine HasB.drew ?_|refine HasB.alloc ?_ _|refine blk_far ?_ (Aside0.out (by assumption)) _|refine HasB.far ?_ (Aside0.out (by assumption)) _|refine pA4 ?_|refine pA3 ?_|refine pA2 ?_)):W'.heap[g]?=some (.cells cs' t (0,0)):=hs h
theorem gI {α:Type} {c:Prop} {i_:Decidable c} {a:Option α} {r:α} (H:@ite (Option α) c i_ a none=some r):decide c=true∧a=some r:=by
  by_cases h:c
  · exact ⟨decide_eq_true h,by rw [if_pos h] at H;exact H⟩
  · rw [if_neg h] at H;cases H
theorem rB {W W' W2:World} {g:Nat} {o:Obj} (h:Aside0 (W.heap[g]?=some o)) (hb:Below W'.heap.size W' W2) (hs:W.heap[g]?=some o→W'.heap[g]?=some o:=by intro h;(with_reducible repeat (first|refine blk_drewN ?_ _|refine blk_drew ?_|refine blk_alloc ?_ _));exact h):Aside0 (W2.heap[g]?=some o):=⟨blk_below (hs h.out) hb⟩
theorem rU {w W W' W2:World} {g:Nat} (h:Aside0 (KeepBut w W g none)) (hb:Below W'.heap.size W' W2) (hs:KeepBut w W g none→KeepBut w W' g none:=by intro h;repeat (first|(with_reducible first|exact h|apply KeepBut.set_|apply keep_drewN|apply keep_drew|apply keep_alloc|refine keep_far ?_ (Aside0.out (by assumption)) _)|exact h)):Aside0 (KeepBut w W2 g none):=⟨KeepBut.trans (hs h.out) (KeepBut.of_below hb g none) (.inl rfl)⟩
theorem rS {w W W' W2:World} (h:Aside0 (Below w.heap.size w W)) (hb:Below W'.heap.size W' W2) (hs:Below w.heap.size w W→Below w.heap.size w W':=by intro h;repeat (first|(with_reducible first|exact h|apply below_alloc|apply pw_below_drewN|apply below_drew1|refine below_set ?_ (Aside0.out (by assumption)))|exact h)):Aside0 (Below w.heap.size w W2):=⟨below_step (hs h.out) hb⟩
theorem rP {W W' W2:World} {g g':Nat} {row:Option Nat} {o:Obj} (hk:KeepBut W' W2 g row) (h:Aside0 (W.heap[g']?=some o)) (hn:Aside0 (g'≠g)) (hr:some g'≠row:=by simp) (hs:W.heap[g']?=some o→W'.heap[g']?=some o:=by intro h;(with_reducible repeat (first|refine blk_drewN ?_ _|refine blk_drew ?_|refine blk_alloc ?_ _));exact h):Aside0 (W2.heap[g']?=some o):=⟨KeepBut.blk hk (hs h.out) hn.out hr⟩
theorem gF {w W W':World} {g:Nat} (hg:g=W'.heap.size) (h:Aside0 (Below w.heap.size w W)) (hs:Below w.heap.size w W→Below w.heap.size w W':=by intro h;repeat (first|(with_reducible first|exact h|apply below_alloc|apply pw_below_drewN|apply below_drew1|refine below_set ?_ (Aside0.out (by assumption)))|exact h)):Aside0 (w.heap.size≤g):=gE hg (below_size (hs h.out))
theorem nM {W W':World} {g a:Nat} {o:Obj} (hg:g=W'.heap.size) (h:Aside0 (W.heap[a]?=some o)) (hs:W.heap[a]?=some o→W'.heap[a]?=some o:=by intro h;(with_reducible repeat (first|refine blk_drewN ?_ _|refine blk_drew ?_|refine blk_alloc ?_ _));exact h):Aside0 (a≠g):=nL hg (blk_lt (hs h.out))
theorem nH {W W':World} {g a:Nat} {o:Obj} (hg:g=W'.heap.size) (h:Aside0 (W.heap[a]?=some o)) (hs:W.heap[a]?=some o→W'.heap[a]?=some o:=by intro h;(with_reducible repeat (first|refine blk_drewN ?_ _|refine blk_drew ?_|refine blk_alloc ?_ _));exact h):Aside0 (g≠a):=nG hg (blk_lt (hs h.out))
theorem dT {p:Prop} {i_:Decidable p} (h:decide p=true:=by first|(with_reducible assumption)|assumption):p:=of_decide_eq_true h
instance coeB:Coe Bool Value:=⟨fun x=>.bool x⟩
instance coeI:Coe Int Value:=⟨fun x=>.int .i64 x⟩
theorem cM {α:Type} {d:Kd α} {W W':World} {A:Option Addr} {n:Nat} {l:List α} (h:Kd.C d W A n l) (hs:Kd.C d W A n l→Kd.C d W' A n l:=by intro h;repeat (first|exact h|(with_reducible refine Kd.C_alloc ?_ _)|(with_reducible refine Kd.C_drewN ?_ _)|(with_reducible refine Kd.C_drew ?_))):Kd.C d W' A n l:=hs h
theorem cZ {α:Type} {d:Kd α} {W:World} {g i:Nat} {u:Value} (n:Nat) (h:W.cell? ⟨g,i*d.sz+0,none⟩=some u) (hz:d.sz=n:=by rfl):W.cell? ⟨g,i*n,none⟩=some u:=hz ▸ h
theorem fZ {α:Type} {d:Kd α} {W:World} {g i:Nat} (n:Nat) (h:W.frozen? ⟨g,i*d.sz+0,none⟩=false) (hz:d.sz=n:=by rfl):W.frozen? ⟨g,i*n,none⟩=false:=hz ▸ h
theorem cJ {α:Type} {d:Kd α} {W:World} {g i j:Nat} {u:Value} (n:Nat) (h:W.cell? ⟨g,i*d.sz+j,none⟩=some u) (hz:d.sz=n:=by rfl):W.cell? ⟨g,i*n+j,none⟩=some u:=hz ▸ h
theorem fJ {α:Type} {d:Kd α} {W:World} {g i j:Nat} (n:Nat) (h:W.frozen? ⟨g,i*d.sz+j,none⟩=false) (hz:d.sz=n:=by rfl):W.frozen? ⟨g,i*n+j,none⟩=false:=hz ▸ h
theorem hF {α:Type} {i_:Decidable (false=true)} {a b r:α} (H:@ite α (false=true) i_ a b=r):b=r:=hN H Bool.false_ne_true
abbrev lR:=@LeO.refl
abbrev lN:=@LeO.none
abbrev lI:=@LeO.ite
abbrev lB:=@LeO.bind
def bv (n m:Nat):Array Bool:=((List.range n).map fun i=>m.testBit i).toArray
theorem rK {α:Type} {d:Kd α} {e base:Nat} {ok:Nat→Prop} {v:Value} {xs:List α} {W W' W2:World} (h:Aside0 (d.R e W base ok v xs)) (hb:Below W'.heap.size W' W2) (hs:d.R e W base ok v xs→d.R e W' base ok v xs:=by intro h;(with_reducible repeat (first|apply Kd.R_alloc|apply Kd.R_drewN|apply Kd.R_drew));exact h):Aside0 (d.R e W2 base ok v xs):=⟨Kd.R_below (hs h.out) hb⟩
abbrev wS (x:Int):Int:=wrap64 (x+1)
theorem ks {α:Type} {d:Kd α} {e:Nat} {W W':World} {base:Nat} {ok:Nat→Prop} {v:Value} {xs:List α} (h:d.S e W base ok v xs) (hs:d.S e W base ok v xs→d.S e W' base ok v xs:=by intro h;(with_reducible repeat (first|apply Kd.S_alloc|apply Kd.S_drewN|apply Kd.S_drew));exact h):d.S e W' base ok v xs:=hs h
theorem nF3 {α : Type} {d : Kd α} {e : Nat} {W : World} {base : Nat} {ok : Nat → Prop} {v : Value} {xs : List α} {g : Nat} (h : Kd.N d e W base ok v xs) (hok : ∀ k, ok k → k ≠ g) (u0 u1 u2 : Value) : Kd.N d e (((W.setCell ⟨g, 0, none⟩ u0).setCell ⟨g, 1, none⟩ u1).setCell ⟨g, 2, none⟩ u2) base ok v xs := Kd.N_far (p := ⟨g, 2, none⟩) (Kd.N_far (p := ⟨g, 1, none⟩) (Kd.N_far (p := ⟨g, 0, none⟩) h hok u0) hok u1) hok u2
theorem nF4 {α : Type} {d : Kd α} {e : Nat} {W : World} {base : Nat} {ok : Nat → Prop} {v : Value} {xs : List α} {g : Nat} (h : Kd.N d e W base ok v xs) (hok : ∀ k, ok k → k ≠ g) (u0 u1 u2 u3 : Value) : Kd.N d e ((((W.setCell ⟨g, 0, none⟩ u0).setCell ⟨g, 1, none⟩ u1).setCell ⟨g, 2, none⟩ u2).setCell ⟨g, 3, none⟩ u3) base ok v xs := Kd.N_far (p := ⟨g, 3, none⟩) (Kd.N_far (p := ⟨g, 2, none⟩) (Kd.N_far (p := ⟨g, 1, none⟩) (Kd.N_far (p := ⟨g, 0, none⟩) h hok u0) hok u1) hok u2) hok u3
theorem rF2 {α : Type} {d : Kd α} {e : Nat} {W : World} {base : Nat} {ok : Nat → Prop} {v : Value} {xs : List α} {g : Nat} (h : d.R e W base ok v xs) (hok : ∀ k, ok k → k ≠ g) (u0 u1 : Value) : d.R e ((W.setCell ⟨g, 0, none⟩ u0).setCell ⟨g, 1, none⟩ u1) base ok v xs := Kd.R_far (p := ⟨g, 1, none⟩) (Kd.R_far (p := ⟨g, 0, none⟩) h hok u0) hok u1
theorem rF3 {α : Type} {d : Kd α} {e : Nat} {W : World} {base : Nat} {ok : Nat → Prop} {v : Value} {xs : List α} {g : Nat} (h : d.R e W base ok v xs) (hok : ∀ k, ok k → k ≠ g) (u0 u1 u2 : Value) : d.R e (((W.setCell ⟨g, 0, none⟩ u0).setCell ⟨g, 1, none⟩ u1).setCell ⟨g, 2, none⟩ u2) base ok v xs := Kd.R_far (p := ⟨g, 2, none⟩) (Kd.R_far (p := ⟨g, 1, none⟩) (Kd.R_far (p := ⟨g, 0, none⟩) h hok u0) hok u1) hok u2
theorem rF4 {α : Type} {d : Kd α} {e : Nat} {W : World} {base : Nat} {ok : Nat → Prop} {v : Value} {xs : List α} {g : Nat} (h : d.R e W base ok v xs) (hok : ∀ k, ok k → k ≠ g) (u0 u1 u2 u3 : Value) : d.R e ((((W.setCell ⟨g, 0, none⟩ u0).setCell ⟨g, 1, none⟩ u1).setCell ⟨g, 2, none⟩ u2).setCell ⟨g, 3, none⟩ u3) base ok v xs := Kd.R_far (p := ⟨g, 3, none⟩) (Kd.R_far (p := ⟨g, 2, none⟩) (Kd.R_far (p := ⟨g, 1, none⟩) (Kd.R_far (p := ⟨g, 0, none⟩) h hok u0) hok u1) hok u2) hok u3
theorem rU1 {α : Type} {d : Kd α} {e : Nat} {W : World} {base : Nat} {ok : Nat → Prop} {v : Value} {xs : List α} {g : Nat} {t : Nat} {cells : Array Value} (i : Nat) (h : d.R e W base ok v xs) (hb : W.heap[g]? = some (.cells cells t (0, 0))) (u : Value) (ht : ∀ q, q ∈ e :: d.E → q ≠ t := by decide) : d.R e (W.setCell ⟨g, i, none⟩ u) base ok v xs := Kd.R_mono (Kd.R_far (p := ⟨g, i, none⟩) (Kd.R_types h hb ht) (fun _ hk => hk.2) u) (fun _ hk => hk.1)
theorem sF2 {α : Type} {d : Kd α} {e : Nat} {W : World} {base : Nat} {ok : Nat → Prop} {v : Value} {xs : List α} {g : Nat} (h : Kd.S d e W base ok v xs) (hok : ∀ k, ok k → k ≠ g) (u0 u1 : Value) : Kd.S d e ((W.setCell ⟨g, 0, none⟩ u0).setCell ⟨g, 1, none⟩ u1) base ok v xs := Kd.S_far (p := ⟨g, 1, none⟩) (Kd.S_far (p := ⟨g, 0, none⟩) h hok u0) hok u1
theorem sF3 {α : Type} {d : Kd α} {e : Nat} {W : World} {base : Nat} {ok : Nat → Prop} {v : Value} {xs : List α} {g : Nat} (h : Kd.S d e W base ok v xs) (hok : ∀ k, ok k → k ≠ g) (u0 u1 u2 : Value) : Kd.S d e (((W.setCell ⟨g, 0, none⟩ u0).setCell ⟨g, 1, none⟩ u1).setCell ⟨g, 2, none⟩ u2) base ok v xs := Kd.S_far (p := ⟨g, 2, none⟩) (Kd.S_far (p := ⟨g, 1, none⟩) (Kd.S_far (p := ⟨g, 0, none⟩) h hok u0) hok u1) hok u2
theorem sF4 {α : Type} {d : Kd α} {e : Nat} {W : World} {base : Nat} {ok : Nat → Prop} {v : Value} {xs : List α} {g : Nat} (h : Kd.S d e W base ok v xs) (hok : ∀ k, ok k → k ≠ g) (u0 u1 u2 u3 : Value) : Kd.S d e ((((W.setCell ⟨g, 0, none⟩ u0).setCell ⟨g, 1, none⟩ u1).setCell ⟨g, 2, none⟩ u2).setCell ⟨g, 3, none⟩ u3) base ok v xs := Kd.S_far (p := ⟨g, 3, none⟩) (Kd.S_far (p := ⟨g, 2, none⟩) (Kd.S_far (p := ⟨g, 1, none⟩) (Kd.S_far (p := ⟨g, 0, none⟩) h hok u0) hok u1) hok u2) hok u3
theorem sU1 {α : Type} {d : Kd α} {e : Nat} {W : World} {base : Nat} {ok : Nat → Prop} {v : Value} {xs : List α} {g : Nat} {t : Nat} {cells : Array Value} (i : Nat) (h : Kd.S d e W base ok v xs) (hb : W.heap[g]? = some (.cells cells t (0, 0))) (u : Value) (ht : ∀ q, q ∈ e :: d.E → q ≠ t := by decide) : Kd.S d e (W.setCell ⟨g, i, none⟩ u) base ok v xs := Kd.S_mono (Kd.S_far (p := ⟨g, i, none⟩) (Kd.S_types h hb ht) (fun _ hk => hk.2) u) (fun _ hk => hk.1)
theorem rT2 {α : Type} {d : Kd α} {e : Nat} {W : World} {base : Nat} {ok : Nat → Prop} {v : Value} {xs : List α} {g : Nat} {t : Nat} {cells : Array Value} (h : d.R e W base ok v xs) (hb : W.heap[g]? = some (.cells cells t (0, 0))) (u0 u1 : Value) (ht : ∀ q, q ∈ e :: d.E → q ≠ t := by decide) : d.R e ((W.setCell ⟨g, 0, none⟩ u0).setCell ⟨g, 1, none⟩ u1) base ok v xs := Kd.R_mono (rF2 (g := g) (Kd.R_types h hb ht) (fun _ hk => hk.2) u0 u1) (fun _ hk => hk.1)
theorem rT3 {α : Type} {d : Kd α} {e : Nat} {W : World} {base : Nat} {ok : Nat → Prop} {v : Value} {xs : List α} {g : Nat} {t : Nat} {cells : Array Value} (h : d.R e W base ok v xs) (hb : W.heap[g]? = some (.cells cells t (0, 0))) (u0 u1 u2 : Value) (ht : ∀ q, q ∈ e :: d.E → q ≠ t := by decide) : d.R e (((W.setCell ⟨g, 0, none⟩ u0).setCell ⟨g, 1, none⟩ u1).setCell ⟨g, 2, none⟩ u2) base ok v xs := Kd.R_mono (rF3 (g := g) (Kd.R_types h hb ht) (fun _ hk => hk.2) u0 u1 u2) (fun _ hk => hk.1)
theorem rT4 {α : Type} {d : Kd α} {e : Nat} {W : World} {base : Nat} {ok : Nat → Prop} {v : Value} {xs : List α} {g : Nat} {t : Nat} {cells : Array Value} (h : d.R e W base ok v xs) (hb : W.heap[g]? = some (.cells cells t (0, 0))) (u0 u1 u2 u3 : Value) (ht : ∀ q, q ∈ e :: d.E → q ≠ t := by decide) : d.R e ((((W.setCell ⟨g, 0, none⟩ u0).setCell ⟨g, 1, none⟩ u1).setCell ⟨g, 2, none⟩ u2).setCell ⟨g, 3, none⟩ u3) base ok v xs := Kd.R_mono (rF4 (g := g) (Kd.R_types h hb ht) (fun _ hk => hk.2) u0 u1 u2 u3) (fun _ hk => hk.1)
theorem sT2 {α : Type} {d : Kd α} {e : Nat} {W : World} {base : Nat} {ok : Nat → Prop} {v : Value} {xs : List α} {g : Nat} {t : Nat} {cells : Array Value} (h : Kd.S d e W base ok v xs) (hb : W.heap[g]? = some (.cells cells t (0, 0))) (u0 u1 : Value) (ht : ∀ q, q ∈ e :: d.E → q ≠ t := by decide) : Kd.S d e ((W.setCell ⟨g, 0, none⟩ u0).setCell ⟨g, 1, none⟩ u1) base ok v xs := Kd.S_mono (sF2 (g := g) (Kd.S_types h hb ht) (fun _ hk => hk.2) u0 u1) (fun _ hk => hk.1)
theorem sT3 {α : Type} {d : Kd α} {e : Nat} {W : World} {base : Nat} {ok : Nat → Prop} {v : Value} {xs : List α} {g : Nat} {t : Nat} {cells : Array Value} (h : Kd.S d e W base ok v xs) (hb : W.heap[g]? = some (.cells cells t (0, 0))) (u0 u1 u2 : Value) (ht : ∀ q, q ∈ e :: d.E → q ≠ t := by decide) : Kd.S d e (((W.setCell ⟨g, 0, none⟩ u0).setCell ⟨g, 1, none⟩ u1).setCell ⟨g, 2, none⟩ u2) base ok v xs := Kd.S_mono (sF3 (g := g) (Kd.S_types h hb ht) (fun _ hk => hk.2) u0 u1 u2) (fun _ hk => hk.1)
theorem sT4 {α : Type} {d : Kd α} {e : Nat} {W : World} {base : Nat} {ok : Nat → Prop} {v : Value} {xs : List α} {g : Nat} {t : Nat} {cells : Array Value} (h : Kd.S d e W base ok v xs) (hb : W.heap[g]? = some (.cells cells t (0, 0))) (u0 u1 u2 u3 : Value) (ht : ∀ q, q ∈ e :: d.E → q ≠ t := by decide) : Kd.S d e ((((W.setCell ⟨g, 0, none⟩ u0).setCell ⟨g, 1, none⟩ u1).setCell ⟨g, 2, none⟩ u2).setCell ⟨g, 3, none⟩ u3) base ok v xs := Kd.S_mono (sF4 (g := g) (Kd.S_types h hb ht) (fun _ hk => hk.2) u0 u1 u2 u3) (fun _ hk => hk.1)
end Go.Proofs.YtjodolkdelffaaaW.PrintWords
