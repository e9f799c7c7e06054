/- A part of the proof of laws.FnIns. No condition beyond what its theorems say. -/
import Derived.Test.YtljbdchibfjbdaaDoorVFnInsPx8
namespace Go.Proofs.YtljbdchibfjbdaaDoor.PFnIns
open Go.RowKit Go.Proofs.YtljbdchibfjbdaaDoorW.PrintWords Go.Proofs.YtljbdchibfjbdaaDoorW.PrintLast Go.Proofs.YtljbdchibfjbdaaDoorW.PrintMore
set_option linter.unusedVariables false
set_option linter.unusedSimpArgs false

/-- A state of type 73 at block g of W; what its slices lead to came in by w0. -/
def IsS73 (w0 W:World) (g:Nat) (f0:List Int) (f1:Int) (f2:Bool):Prop:=∃ A0 c0,W.heap[g]?=some (.cells #[.slice A0 f0.length c0,f1,f2] 73 (0,0))∧w0.heap.size≤g∧(Kd.C (Kd.int .u8) w0 A0 f0.length f0∧f0.length≤c0)
theorem IsS73.grown {w0 W:World} {g:Nat} {f0:List Int} {f1:Int} {f2:Bool} {W1:World} {row:Option Nat} (h:IsS73 w0 W g f0 f1 f2) (hw:W.grownBy W1 row) (hne:some g≠row):IsS73 w0 W1 g f0 f1 f2:=by
 obtain ⟨A0,c0,hb,hg,hr0⟩:=h;exact ⟨A0,c0,blk_grown hb hw hne,hg,hr0⟩
theorem IsS73.own_neN {w0 W:World} {g:Nat} {f0:List Int} {f1:Int} {f2:Bool} {α:Type} {d:Kd α} {e:Nat} {base:Nat} {ok:Nat→Prop} {v:Value} {xs:List α} (h:IsS73 w0 W g f0 f1 f2) (ho:Kd.N d e W base ok v xs) (ht:e≠73):some g≠v.ownBlock:=by
 obtain ⟨A0,c0,hb,hg,hr0⟩:=h;exact Kd.N_ne ho hb ht
theorem IsS73.fresh {w0 W:World} {g:Nat} {f0:List Int} {f1:Int} {f2:Bool} (h:IsS73 w0 W g f0 f1 f2):∀ k,W.heap.size≤k→k≠g:=by
 obtain ⟨A0,c0,hb,hg,hr0⟩:=h;exact Kd.freshB hb
theorem IsS73.kept {w0 W:World} {g:Nat} {f0:List Int} {f1:Int} {f2:Bool} {W1:World} {S:Nat→Prop} (h:IsS73 w0 W g f0 f1 f2) (hk:Kept W W1 S) (hne:¬ S g):IsS73 w0 W1 g f0 f1 f2:=by
 obtain ⟨A0,c0,hb,hg,hr0⟩:=h;exact ⟨A0,c0,blk_kept hb hk hne,hg,hr0⟩
theorem IsS73.below {w0 W:World} {g:Nat} {f0:List Int} {f1:Int} {f2:Bool} {W1:World} (h:IsS73 w0 W g f0 f1 f2) (hw:Below W.heap.size W W1):IsS73 w0 W1 g f0 f1 f2:=h.grown (grown_of_below hw none) (by simp)
theorem IsS73.alloc {w0 W:World} {g:Nat} {f0:List Int} {f1:Int} {f2:Bool} (h:IsS73 w0 W g f0 f1 f2) (o:Obj):IsS73 w0 (W.alloc o) g f0 f1 f2:=h.below (below_alloc (Below.refl _ _) o)
theorem IsS73.drewN {w0 W:World} {g:Nat} {f0:List Int} {f1:Int} {f2:Bool} (h:IsS73 w0 W g f0 f1 f2) (m:Nat):IsS73 w0 (W.drewN m) g f0 f1 f2:=h
theorem IsS73.drew {w0 W:World} {g:Nat} {f0:List Int} {f1:Int} {f2:Bool} (h:IsS73 w0 W g f0 f1 f2):IsS73 w0 W.drew g f0 f1 f2:=h
theorem IsS73.at_ {w0 W:World} {g:Nat} {f0:List Int} {f1:Int} {f2:Bool} {w':World} {m:Nat} (hq:W.drewN m=w') (h:IsS73 w0 W g f0 f1 f2):IsS73 w0 w' g f0 f1 f2:=by subst hq;exact IsS73.drewN h m
theorem IsS73.apart {w0 W:World} {g:Nat} {f0:List Int} {f1:Int} {f2:Bool} {α:Type} {d:Kd α} {e:Nat} {base:Nat} {ok:Nat→Prop} {v:Value} {xs:List α} (h:IsS73 w0 W g f0 f1 f2) (ho:d.R e W base ok v xs) (ht:∀ q,q∈e :: d.E→q≠73):d.R e W base (fun k=>ok k∧k≠g) v xs:=by
 obtain ⟨A0,c0,hb,hg,hr0⟩:=h;exact Kd.R_types ho hb ht
theorem IsS73.own_ne {w0 W:World} {g:Nat} {f0:List Int} {f1:Int} {f2:Bool} {α:Type} {d:Kd α} {e:Nat} {base:Nat} {ok:Nat→Prop} {v:Value} {xs:List α} (h:IsS73 w0 W g f0 f1 f2) (ho:d.R e W base ok v xs) (ht:e≠73):some g≠v.ownBlock:=by
 obtain ⟨A0,c0,hb,hg,hr0⟩:=h;exact Kd.R_ne ho hb ht
theorem IsS73.apartQ {w0 W:World} {g:Nat} {f0:List Int} {f1:Int} {f2:Bool} {α:Type} {d:Kd α} {e:Nat} {base:Nat} {ok:Nat→Prop} {v:Value} {xs:List α} (h:IsS73 w0 W g f0 f1 f2) (ho:d.Q e W base ok v xs) (ht:∀ q,q∈e :: d.E→q≠73):d.Q e W base (fun k=>ok k∧k≠g) v xs:=by
 obtain ⟨A0,c0,hb,hg,hr0⟩:=h;exact Kd.Q_types ho hb ht
theorem IsS73.own_neQ {w0 W:World} {g:Nat} {f0:List Int} {f1:Int} {f2:Bool} {α:Type} {d:Kd α} {e:Nat} {base:Nat} {ok:Nat→Prop} {v:Value} {xs:List α} (h:IsS73 w0 W g f0 f1 f2) (ho:d.Q e W base ok v xs) (ht:e≠73):some g≠v.ownBlock:=by
 obtain ⟨A0,c0,hb,hg,hr0⟩:=h;exact Kd.Q_ne ho hb ht
theorem IsS73.apartS {w0 W:World} {g:Nat} {f0:List Int} {f1:Int} {f2:Bool} {α:Type} {d:Kd α} {e:Nat} {base:Nat} {ok:Nat→Prop} {v:Value} {xs:List α} (h:IsS73 w0 W g f0 f1 f2) (ho:d.S e W base ok v xs) (ht:∀ q,q∈e :: d.E→q≠73):d.S e W base (fun k=>ok k∧k≠g) v xs:=by
 obtain ⟨A0,c0,hb,hg,hr0⟩:=h;exact Kd.S_types ho hb ht
theorem IsS73.own_neS {w0 W:World} {g:Nat} {f0:List Int} {f1:Int} {f2:Bool} {α:Type} {d:Kd α} {e:Nat} {base:Nat} {ok:Nat→Prop} {v:Value} {xs:List α} (h:IsS73 w0 W g f0 f1 f2) (ho:d.S e W base ok v xs) (ht:e≠73):some g≠v.ownBlock:=by
 obtain ⟨A0,c0,hb,hg,hr0⟩:=h;exact Kd.S_ne ho hb ht
theorem IsS73.lt {w0 W:World} {g:Nat} {f0:List Int} {f1:Int} {f2:Bool} (h:IsS73 w0 W g f0 f1 f2):g<W.heap.size:=by
 obtain ⟨A0,c0,hb,hg,hr0⟩:=h;exact blk_lt hb
theorem IsS73.ge {w0 W:World} {g:Nat} {f0:List Int} {f1:Int} {f2:Bool} (h:IsS73 w0 W g f0 f1 f2):w0.heap.size≤g:=by
 obtain ⟨A0,c0,hb,hg,hr0⟩:=h;exact hg
theorem IsS73.ne_blk {w0 W:World} {g:Nat} {f0:List Int} {f1:Int} {f2:Bool} {a:Nat} {cs:Array Value} {t:TypeId} {fr:Nat × Nat} (h:IsS73 w0 W g f0 f1 f2) (hb2:W.heap[a]?=some (.cells cs t fr)) (ht:t≠73):g≠a:=by
 obtain ⟨A0,c0,hb,hg,hr0⟩:=h;rintro rfl;rw [hb] at hb2
 injection hb2 with hb2
 injection hb2 with _ ht2
 exact ht ht2.symm
theorem IsS73.far {w0 W:World} {g:Nat} {f0:List Int} {f1:Int} {f2:Bool} {p:Addr} (h:IsS73 w0 W g f0 f1 f2) (hne:g≠p.block) (u:Value):IsS73 w0 (W.setCell p u) g f0 f1 f2:=by
 obtain ⟨A0,c0,hb,hg,hr0⟩:=h;exact ⟨A0,c0,blk_far hb hne u,hg,hr0⟩
theorem cellS73_0 {W:World} {g:Nat} {A0:Option Addr} {c0:Nat} {f0:List Int} {f1:Int} {f2:Bool} (h:W.heap[g]?=some (.cells #[.slice A0 f0.length c0,f1,f2] 73 (0,0))):W.cell? ⟨g,0,none⟩=some (.slice A0 f0.length c0):=(bC h 0).trans rfl
theorem IsS73.put_0 {w0 W:World} {g:Nat} {f0:List Int} {f1:Int} {f2:Bool} {A_:Option Addr} {c_:Nat} {x_:List Int} (h:IsS73 w0 W g f0 f1 f2) (hx_:Kd.C (Kd.int .u8) w0 A_ x_.length x_∧x_.length≤c_):IsS73 w0 (W.setCell ⟨g,0,none⟩ (.slice A_ x_.length c_)) g x_ f1 f2:=by
 obtain ⟨A0,c0,hb,hg,hr0⟩:=h;exact ⟨A_,c_,by simpa using blk_set hb 0 (.slice A_ x_.length c_),hg,hx_⟩
theorem cellS73_1 {W:World} {g:Nat} {A0:Option Addr} {c0:Nat} {f0:List Int} {f1:Int} {f2:Bool} (h:W.heap[g]?=some (.cells #[.slice A0 f0.length c0,f1,f2] 73 (0,0))):W.cell? ⟨g,1,none⟩=some f1:=(bC h 1).trans rfl
theorem IsS73.set_1 {w0 W:World} {g:Nat} {f0:List Int} {f1:Int} {f2:Bool} (h:IsS73 w0 W g f0 f1 f2) (x:Int):IsS73 w0 (W.setCell ⟨g,1,none⟩ (.int .i64 x)) g f0 x f2:=by
 obtain ⟨A0,c0,hb,hg,hr0⟩:=h;exact ⟨A0,c0,by simpa using blk_set hb 1 (.int .i64 x),hg,hr0⟩
theorem cellS73_2 {W:World} {g:Nat} {A0:Option Addr} {c0:Nat} {f0:List Int} {f1:Int} {f2:Bool} (h:W.heap[g]?=some (.cells #[.slice A0 f0.length c0,f1,f2] 73 (0,0))):W.cell? ⟨g,2,none⟩=some f2:=(bC h 2).trans rfl
theorem IsS73.set_2 {w0 W:World} {g:Nat} {f0:List Int} {f1:Int} {f2:Bool} (h:IsS73 w0 W g f0 f1 f2) (x:Bool):IsS73 w0 (W.setCell ⟨g,2,none⟩ (.bool x)) g f0 f1 x:=by
 obtain ⟨A0,c0,hb,hg,hr0⟩:=h;exact ⟨A0,c0,by simpa using blk_set hb 2 (.bool x),hg,hr0⟩
theorem IsS73.new (w0 W:World) (A0:Option Addr) (c0:Nat) (f0:List Int) (f1:Int) (f2:Bool) (hB:Below w0.heap.size w0 W) (hr0:Kd.C (Kd.int .u8) w0 A0 f0.length f0∧f0.length≤c0):IsS73 w0 (W.alloc (.cells #[.slice A0 f0.length c0,f1,f2] 73)) W.heap.size f0 f1 f2:=⟨A0,c0,by simpa using heap_alloc_new W _,hB.size,hr0⟩

theorem IsS73.mv {w0 W W':World} {g:Nat} {f0 f0':List Int} {f1 f1':Int} {f2 f2':Bool} (h:IsS73 w0 W g f0 f1 f2) (hs:IsS73 w0 W g f0 f1 f2→IsS73 w0 W' g f0' f1' f2':=by intro h;repeat (first|(with_reducible first|exact h|apply IsS73.alloc|apply IsS73.drewN|apply IsS73.drew|apply IsS73.set_1|apply IsS73.set_2|refine IsS73.far ?_ (Aside0.out (by assumption)) _)|exact h)):IsS73 w0 W' g f0' f1' f2':=hs h
theorem IsS73.bl {B:Nat} {w0 W W':World} (h:Below B w0 W) (hs:Below B w0 W→Below B w0 W':=by intro h;repeat (first|(with_reducible first|exact h|apply below_alloc|apply pw_below_drewN|apply below_drew1|refine below_set ?_ (Aside0.out (by assumption))|refine below_set ?_ (IsS73.ge (Aside0.out (by assumption))))|exact h)):Below B w0 W':=hs h
def Z8.f (k:Nat) (aE:List Int) (aC:Int) (aD:Bool):Option (Int × Int × Bool):=(Z14.f k aE aC).bind fun aA=>(if aA.2.2=true then (if aD=true then (some (aA.1,aA.2.1,aD)) else (some (0,aC,false))) else (some (0,aC,false)))
theorem Z8.mono:∀ a0 a1 a2 k,LeO (Z8.f k a0 a1 a2) (Z8.f (k+1) a0 a1 a2):=by
 intro a0 a1 a2 k;unfold Z8.f
 repeat' (with_reducible first|apply Z14.mono|exact lR _|refine lB ?_ fun _=>?_)
set_option maxHeartbeats 60000000 in
set_option maxRecDepth 100000 in
theorem Z8.calls (k g:Nat) (aC:List Int) (aA:Int) (aG:Bool) (r1 r2:Int) (r3:Bool) (w0 w:World) (hI:IsS73 w0 w g aC aA aG) (hB:Below w0.heap.size w0 w) (h:Z8.f k aC aA aG=some (r1,r2,r3)) :
  Calls Tryd.prog 54 #[.pointer (some ⟨g,0,none⟩)] w fun e w'=>e=.returned (.int .i64 r1)∧IsS73 w0 w' g aC r2 r3∧Below w0.heap.size w0 w'∧KeepBut w w' g none:=by
 have aH:=aM hI;have HK:=aM (KeepBut.refl w g none);have HL:=aM hB.size;clear hI;have HW0:=aM hB.size;have HB:=aM hB;clear hB;have H:((Z14.f k aC aA).bind fun aI=>(if aI.2.2=true then (if aG=true then (some (aI.1,aI.2.1,aG)) else (some (0,aA,false))) else (some (0,aA,false))))=some (r1,r2,r3):=h
 clear h;obtain ⟨⟨aD,aE,aK⟩,aJ,H⟩:=hB H
 try dsimp only at H
 have A2:=aM aJ;clear aJ
 by_cases c3:aK=true
 case neg =>
  replace c3:=Bool.eq_false_iff.mpr c3;subst c3;replace H:=hF H;simp only [Option.some.injEq,Prod.mk.injEq] at H;obtain ⟨rfl,rfl,rfl⟩:=H;obtain ⟨ASz7_0,cSz7_0,HGz7,hgz7,HSz7_0⟩:=aH.out;have aN:=cellS73_0 HGz7;have aQ:=cellS73_1 HGz7;have aT:=cellS73_2 HGz7;have aV:=bF HGz7 1;have aW:=bF HGz7 2;clear HGz7 hgz7;go_enter Tryd.func54,Tryd.ntmps54
  go_wp2_with (first|(go_at_call 40;(with_reducible refine (Z14.calls k _ _ aC aA aD aE false _ ?side1 ?side2 A2.out).mono ?_);(case side1=>exact cM (cB HSz7_0.1 HB.out));(case side2=>exact HSz7_0.2);rintro e w' ⟨rfl,⟨nd,rfl⟩⟩;(try first|exact ⟨rfl,_,World.drewN_drewN _ _ _⟩|exact ⟨rfl,_,Eq.trans (World.drewN_drewN _ _ _) (congrArg (World.drewN _) (Nat.add_assoc _ _ _))⟩)))
  repeat (go_quiet ((go_at_call 40;(with_reducible refine (Z14.calls k _ _ aC aA aD aE false _ ?side1 ?side2 A2.out).mono ?_);(case side1=>exact cM (cB HSz7_0.1 HB.out));(case side2=>exact HSz7_0.2);rintro e w' ⟨rfl,⟨nd,rfl⟩⟩;(try exact ⟨rfl,_,World.drewN_drewN _ _ _⟩)));try go_wp2_with (first|(go_at_call 40;(with_reducible refine (Z14.calls k _ _ aC aA aD aE false _ ?side1 ?side2 A2.out).mono ?_);(case side1=>exact cM (cB HSz7_0.1 HB.out));(case side2=>exact HSz7_0.2);rintro e w' ⟨rfl,⟨nd,rfl⟩⟩;(try first|exact ⟨rfl,_,World.drewN_drewN _ _ _⟩|exact ⟨rfl,_,Eq.trans (World.drewN_drewN _ _ _) (congrArg (World.drewN _) (Nat.add_assoc _ _ _))⟩))))
  go_ret
  exact ⟨xW,IsS73.mv aH.out,IsS73.bl HB.out,km HK.out⟩
 subst c3;replace H:=hP H rfl
 by_cases c4:aG=true
 case pos =>
  subst c4;replace H:=hP H rfl;simp only [Option.some.injEq,Prod.mk.injEq] at H;obtain ⟨rfl,rfl,rfl⟩:=H;obtain ⟨ASz5_0,cSz5_0,HGz5,hgz5,HSz5_0⟩:=aH.out;have aX:=cellS73_0 HGz5;have bA:=cellS73_1 HGz5;have bD:=cellS73_2 HGz5;have bG:=bF HGz5 1;have bH:=bF HGz5 2;clear HGz5 hgz5;go_enter Tryd.func54,Tryd.ntmps54
  go_wp2_with (first|(go_at_call 40;(with_reducible refine (Z14.calls k _ _ aC aA aD aE true _ ?side1 ?side2 A2.out).mono ?_);(case side1=>exact cM (cB HSz5_0.1 HB.out));(case side2=>exact HSz5_0.2);rintro e w' ⟨rfl,⟨nd,rfl⟩⟩;(try first|exact ⟨rfl,_,World.drewN_drewN _ _ _⟩|exact ⟨rfl,_,Eq.trans (World.drewN_drewN _ _ _) (congrArg (World.drewN _) (Nat.add_assoc _ _ _))⟩)))
  repeat (go_quiet ((go_at_call 40;(with_reducible refine (Z14.calls k _ _ aC aA aD aE true _ ?side1 ?side2 A2.out).mono ?_);(case side1=>exact cM (cB HSz5_0.1 HB.out));(case side2=>exact HSz5_0.2);rintro e w' ⟨rfl,⟨nd,rfl⟩⟩;(try exact ⟨rfl,_,World.drewN_drewN _ _ _⟩)));try go_wp2_with (first|(go_at_call 40;(with_reducible refine (Z14.calls k _ _ aC aA aD aE true _ ?side1 ?side2 A2.out).mono ?_);(case side1=>exact cM (cB HSz5_0.1 HB.out));(case side2=>exact HSz5_0.2);rintro e w' ⟨rfl,⟨nd,rfl⟩⟩;(try first|exact ⟨rfl,_,World.drewN_drewN _ _ _⟩|exact ⟨rfl,_,Eq.trans (World.drewN_drewN _ _ _) (congrArg (World.drewN _) (Nat.add_assoc _ _ _))⟩))))
  go_ret
  exact ⟨xW,IsS73.mv aH.out,IsS73.bl HB.out,km HK.out⟩
 replace c4:=Bool.eq_false_iff.mpr c4;subst c4;replace H:=hF H;simp only [Option.some.injEq,Prod.mk.injEq] at H;obtain ⟨rfl,rfl,rfl⟩:=H;obtain ⟨ASz6_0,cSz6_0,HGz6,hgz6,HSz6_0⟩:=aH.out;have bI:=cellS73_0 HGz6;have bJ:=cellS73_1 HGz6;have bK:=cellS73_2 HGz6;have bL:=bF HGz6 1;have bM:=bF HGz6 2;clear HGz6 hgz6;go_enter Tryd.func54,Tryd.ntmps54
 go_wp2_with (first|(go_at_call 40;(with_reducible refine (Z14.calls k _ _ aC aA aD aE true _ ?side1 ?side2 A2.out).mono ?_);(case side1=>exact cM (cB HSz6_0.1 HB.out));(case side2=>exact HSz6_0.2);rintro e w' ⟨rfl,⟨nd,rfl⟩⟩;(try first|exact ⟨rfl,_,World.drewN_drewN _ _ _⟩|exact ⟨rfl,_,Eq.trans (World.drewN_drewN _ _ _) (congrArg (World.drewN _) (Nat.add_assoc _ _ _))⟩)))
 repeat (go_quiet ((go_at_call 40;(with_reducible refine (Z14.calls k _ _ aC aA aD aE true _ ?side1 ?side2 A2.out).mono ?_);(case side1=>exact cM (cB HSz6_0.1 HB.out));(case side2=>exact HSz6_0.2);rintro e w' ⟨rfl,⟨nd,rfl⟩⟩;(try exact ⟨rfl,_,World.drewN_drewN _ _ _⟩)));try go_wp2_with (first|(go_at_call 40;(with_reducible refine (Z14.calls k _ _ aC aA aD aE true _ ?side1 ?side2 A2.out).mono ?_);(case side1=>exact cM (cB HSz6_0.1 HB.out));(case side2=>exact HSz6_0.2);rintro e w' ⟨rfl,⟨nd,rfl⟩⟩;(try first|exact ⟨rfl,_,World.drewN_drewN _ _ _⟩|exact ⟨rfl,_,Eq.trans (World.drewN_drewN _ _ _) (congrArg (World.drewN _) (Nat.add_assoc _ _ _))⟩))))
 go_ret
 exact ⟨xW,IsS73.mv aH.out,IsS73.bl HB.out,km HK.out⟩

end Go.Proofs.YtljbdchibfjbdaaDoor.PFnIns
