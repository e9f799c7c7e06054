/- A part of the proof of laws.FnCards. No condition beyond what its theorems say. -/
import Derived.Test.YtjodolkdelffaaaVFnCardsPx0
namespace Go.Proofs.Ytjodolkdelffaaa.PFnCards
open Go.RowKit Go.Proofs.YtjodolkdelffaaaW.PrintWords Go.Proofs.YtjodolkdelffaaaW.PrintLast Go.Proofs.YtjodolkdelffaaaW.PrintMore
set_option linter.unusedVariables false
set_option linter.unusedSimpArgs false

def Z40.f (l0:List (S72)):Option ((List (S72))):=(some (([]:List (S72)):List (S72))).bind fun aA=>(if aA.length+l0.length<4398046511104 then (some (aA++l0)) else (none))
set_option maxHeartbeats 60000000 in
set_option maxRecDepth 100000 in
theorem Z40.calls (A0:Option Addr) (c0:Nat) (l0:List (S72)) (r:List (S72)) (w:World) (hr0:Kd.C k72 w A0 l0.length l0) (hc0:l0.length≤c0) (h:Z40.f l0=some r) :
  Calls Try.prog 56 #[.slice A0 l0.length c0] w fun e w'=>∃ aJ:Value,e=.returned (aJ)∧Kd.R k72 72 w' w.heap.size (fun _=>True) aJ r∧Below w.heap.size w w':=by
 have qn:∀ (w:World) (a:Option Addr) (n c n' c':Nat),(binOp .eql 26 (.slice a n c) (.slice none n' c')).run Try.prog w=.ok (.bool a.isNone) w:=fun w a n c n' c'=>Lib.run_eql_slice_nil w _ _ a n c n' c' Try.underlying26
 by_cases hnil:A0=none
 ·have hl:l0=[]:=by
   have hc:=hr0.2.2;rw [hnil] at hc
   cases l0 with
   | nil=>rfl
   | cons x t=>obtain ⟨_,hx,_⟩:=hc (by simp);cases hx
  subst hnil;subst hl;have hr:r=[]:=by simpa [Z40.f] using h.symm
  subst hr;clear hr0 h;go_enter Try.func56,Try.ntmps56
  go_wp2
  go_ret
  exact ⟨_,rfl,Kd.R_nil _ _ _ _ _,Below.refl _ _⟩
 have hsome:A0.isNone=false:=by cases A0 <;> simp at hnil ⊢
 clear hnil;have aQ:=aM hr0;clear hr0 hc0;have HB:=aM (Below.refl w.heap.size w);have H:((some (([]:List (S72)):List (S72))).bind fun aC=>(if aC.length+l0.length<4398046511104 then (some (aC++l0)) else (none)))=some r:=h
 clear h;obtain ⟨aC,aE,H⟩:=hS H;have aG:=aM aE;clear aE
 by_cases c2:aC.length+l0.length<4398046511104
 case neg =>
  rw [if_neg c2] at H
  exact absurd H (by simp)
 rw [if_pos c2] at H
 have LMc2:=aM c2;clear c2;obtain ⟨aK,aA⟩:∃ y_:List (S72),y_=(aC++l0):=⟨_,rfl⟩;replace H:(some aK)=some r:=by (rw [aA];with_reducible exact H)
 have aH:=aM aA;clear aA;obtain rfl:=Option.some.inj H;go_enter Try.func56,Try.ntmps56
 go_wp2_with (first|((with_reducible refine gD (N:=5) rfl ?_);refine Kd.R_lit k72 _ 72 ?hg (N:=5) ?hd (xs:=([]:List (S72))) (inner:=[]) (ok:=fun _=>True) (okp:=fun _=>True) ?hr ?hp (fun _ hk=>hk) trivial (Below.refl _ _) (Nat.le_refl _) (by simp) ?_;(case hd=>rfl);(case hg=>rfl);(case hr=>(go_simp;done));(case hp=>exact (Reps.none _ _));intro aN w3 ho4 hb hg_ hnew_;clear hg_ hnew_;(rw [← aG.out] at ho4);have aD:=aM (Kd.R_lower ho4 (below_size (bl HB.out)));replace HB:=rS HB hb;clear hb ho4)|((with_reducible refine gate_builtin (b:=.append) (xs:=#[.tmp 5,.tmp 6]) rfl ?_);at_builtin;refine Kd.R_append_rows k72 (w0:=w) w.heap.size rfl (.tmp 5) (.tmp 6) 26 72 (.agg #[(.int .i64 0),(.int .i64 0),(.int .i64 0),(.int .i64 0)]) 32 rfl Try.underlying26 info72 rfl (by decide) (by omega) aN aC l0 _ _ _ (fun _=>True) (fun _=>False) rfl rfl ?aO ?aR (fun _ _ h=>h) (fun _ h=>h.elim) ?aF ?aB ?aS ?aL ?_;(case aR=>repeat (exact (cB aQ.out HB.out)));(case aB=>exact (bl HB.out));(case aF=>exact (fun _ _=>trivial));(case aO=>exact (kr aD.out));(case aS=>exact (below_size (bl HB.out)));(case aL=>have:=LMc2.out;omega);intro aT w5 ho hb hg hat;rw [← aH.out] at ho;have aI:=aM (ho);replace HB:=aM (hb);clear aD;clear ho hb hg hat))
 go_ret
 exact ⟨_,xW,by (with_reducible repeat (first|apply Kd.R_alloc|apply Kd.R_drewN|apply Kd.R_drew));exact aI.out,bl HB.out⟩

def Z61.f (l0:List Int):Option (List Int):=(some (([]:List Int):List Int)).bind fun aA=>(if aA.length+l0.length<17592186044416 then (some (aA++l0)) else (none))
set_option maxHeartbeats 60000000 in
set_option maxRecDepth 100000 in
theorem Z61.calls (A0:Option Addr) (c0:Nat) (l0:List Int) (r:List Int) (w:World) (hr0:Kd.C (Kd.int .i64) w A0 l0.length l0) (hc0:l0.length≤c0) (h:Z61.f l0=some r) :
  Calls Try.prog 57 #[.slice A0 l0.length c0] w fun e w'=>∃ aJ:Value,e=.returned (aJ)∧Kd.R (Kd.int .i64) 3 w' w.heap.size (fun _=>True) aJ r∧Below w.heap.size w w':=by
 have qn:∀ (w:World) (a:Option Addr) (n c n' c':Nat),(binOp .eql 40 (.slice a n c) (.slice none n' c')).run Try.prog w=.ok (.bool a.isNone) w:=fun w a n c n' c'=>Lib.run_eql_slice_nil w _ _ a n c n' c' Try.underlying40
 by_cases hnil:A0=none
 ·have hl:l0=[]:=by
   have hc:=hr0.2.2;rw [hnil] at hc
   cases l0 with
   | nil=>rfl
   | cons x t=>obtain ⟨_,hx,_⟩:=hc (by simp);cases hx
  subst hnil;subst hl;have hr:r=[]:=by simpa [Z61.f] using h.symm
  subst hr;clear hr0 h;go_enter Try.func57,Try.ntmps57
  go_wp2
  go_ret
  exact ⟨_,rfl,Kd.R_nil _ _ _ _ _,Below.refl _ _⟩
 have hsome:A0.isNone=false:=by cases A0 <;> simp at hnil ⊢
 clear hnil;have aQ:=aM hr0;clear hr0 hc0;have HB:=aM (Below.refl w.heap.size w);have H:((some (([]:List Int):List Int)).bind fun aC=>(if aC.length+l0.length<17592186044416 then (some (aC++l0)) else (none)))=some r:=h
 clear h;obtain ⟨aC,aE,H⟩:=hS H;have aG:=aM aE;clear aE
 by_cases c2:aC.length+l0.length<17592186044416
 case neg =>
  rw [if_neg c2] at H
  exact absurd H (by simp)
 rw [if_pos c2] at H
 have LMc2:=aM c2;clear c2;obtain ⟨aK,aA⟩:∃ y_:List Int,y_=(aC++l0):=⟨_,rfl⟩;replace H:(some aK)=some r:=by (rw [aA];with_reducible exact H)
 have aH:=aM aA;clear aA;obtain rfl:=Option.some.inj H;go_enter Try.func57,Try.ntmps57
 go_wp2_with (first|((with_reducible refine gD (N:=5) rfl ?_);refine Kd.R_lit (Kd.int .i64) _ 3 ?hg (N:=5) ?hd (xs:=([]:List Int)) (inner:=[]) (ok:=fun _=>True) (okp:=fun _=>True) ?hr ?hp (fun _ hk=>hk) trivial (Below.refl _ _) (Nat.le_refl _) (by simp) ?_;(case hd=>rfl);(case hg=>rfl);(case hr=>(go_simp;done));(case hp=>exact (Reps.none _ _));intro aN w3 ho4 hb hg_ hnew_;clear hg_ hnew_;(rw [← aG.out] at ho4);have aD:=aM (Kd.R_lower ho4 (below_size (bl HB.out)));replace HB:=rS HB hb;clear hb ho4)|((with_reducible refine gate_builtin (b:=.append) (xs:=#[.tmp 5,.tmp 6]) rfl ?_);at_builtin;refine Kd.R_append_rows (Kd.int .i64) (w0:=w) w.heap.size rfl (.tmp 5) (.tmp 6) 40 3 (.int .i64 0) 8 rfl Try.underlying40 info3 rfl (by decide) (by omega) aN aC l0 _ _ _ (fun _=>True) (fun _=>False) rfl rfl ?aO ?aR (fun _ _ h=>h) (fun _ h=>h.elim) ?aF ?aB ?aS ?aL ?_;(case aR=>repeat (exact (cB aQ.out HB.out)));(case aB=>exact (bl HB.out));(case aF=>exact (fun _ _=>trivial));(case aO=>exact (kr aD.out));(case aS=>exact (below_size (bl HB.out)));(case aL=>have:=LMc2.out;omega);intro aT w5 ho hb hg hat;rw [← aH.out] at ho;have aI:=aM (ho);replace HB:=aM (hb);clear aD;clear ho hb hg hat))
 go_ret
 exact ⟨_,xW,by (with_reducible repeat (first|apply Kd.R_alloc|apply Kd.R_drewN|apply Kd.R_drew));exact aI.out,bl HB.out⟩

end Go.Proofs.Ytjodolkdelffaaa.PFnCards
