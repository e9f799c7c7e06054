/- A part of the proof of laws.FnIns. No condition beyond what its theorems say. -/
import Derived.Test.YtljbdchibfjbdaaDoorVFnInsPx17
namespace Go.Proofs.YtljbdchibfjbdaaDoor.PFnIns
open Go.RowKit Go.Proofs.YtljbdchibfjbdaaDoorW.PrintWords Go.Proofs.YtljbdchibfjbdaaDoorW.PrintLast Go.Proofs.YtljbdchibfjbdaaDoorW.PrintMore
set_option linter.unusedVariables false
set_option linter.unusedSimpArgs false

def Z65.f (k:Nat) (aD:Int) (aC:List (S102)):Option (Int):=(Z4.f k aD aC).bind fun aA=>(if aA.2=true then (if 0≤aA.1 then (if aA.1<(aC.length:Int) then (some (wrap64 (((rd_T102 aC aA.1).f3)+1))) else (none)) else (none)) else (some 0))
theorem Z65.mono:∀ a0 a1 k,LeO (Z65.f k a0 a1) (Z65.f (k+1) a0 a1):=by
 intro a0 a1 k;unfold Z65.f
 repeat' (with_reducible first|apply Z4.mono|exact lR _|refine lB ?_ fun _=>?_)
set_option maxHeartbeats 60000000 in
set_option maxRecDepth 100000 in
theorem Z65.calls (k:Nat) (aD:Int) (aG:Option Addr) (aH:Nat) (aA:List (S102)) (r:Int) (w:World) (hr0_1:Kd.C k102 w aG aA.length aA) (hc0_1:aA.length≤aH) (h:Z65.f k aD aA=some r) :
  Calls Tryd.prog 82 #[.agg #[aD,.slice aG aA.length aH]] w fun e w'=>e=.returned (.int .i64 r)∧Below w.heap.size w w':=by
 have bV:=Tryd.underlying79;have bH:=aM hr0_1;have bK:=aM hc0_1;clear hr0_1 hc0_1;have HB:=aM (Below.refl w.heap.size w);have H:((Z4.f k aD aA).bind fun bD=>(if bD.2=true then (if 0≤bD.1 then (if bD.1<(aA.length:Int) then (some (wS ((rd_T102 aA bD.1).f3))) else (none)) else (none)) else (some 0)))=some r:=h
 clear h;obtain ⟨⟨bG,bP⟩,bO,H⟩:=hB H
 try dsimp only at H
 have A2:=aM bO;clear bO
 by_cases c3:bP=true
 case neg =>
  replace c3:=Bool.eq_false_iff.mpr c3;subst c3;replace H:=hF H;obtain rfl:=Option.some.inj H;go_enter Tryd.func82,Tryd.ntmps82
  go_wp2_with (first|((with_reducible refine gD (N:=1) rfl ?_);refine bE (N:=1) (cs:=#[aD,.slice aG aA.length aH]) (t:=79) ?_;intro bL hg cA hbox hb;have aC:=aM (hbox);have bM:=gF hg HB;have bN:=gF hg HB;replace HB:=rS HB hb;clear hb hbox hg;have bT:=cA2 aC.out)|((with_reducible refine gC (f:=93) rfl ?_);refine goesL_ (some 7) rfl rfl Tryd.func93 (by kernel_rfl) rfl #[.agg #[aD,.slice aG aA.length aH]] rfl xR ?_;(with_reducible refine (Z4.calls k aD _ _ aA bG false _ ?side1 ?side2 A2.out).mono ?_);(case side1=>exact cM (cB bH.out HB.out));(case side2=>exact bK.out);rintro e cC ⟨rfl,hb⟩;refine ⟨_,rfl,?_⟩;replace aC:=rB aC hb;replace HB:=rS HB hb;(try clear hb)))
  go_ret
  exact ⟨xW,bl HB.out⟩
 subst c3;replace H:=hP H rfl;obtain ⟨bW,H⟩:=gI H;obtain ⟨bX,H⟩:=gI H;obtain rfl:=Option.some.inj H;go_enter Tryd.func82,Tryd.ntmps82
 go_wp2_with (first|((with_reducible refine gD (N:=1) rfl ?_);refine bE (N:=1) (cs:=#[aD,.slice aG aA.length aH]) (t:=79) ?_;intro bL hg w6 hbox hb;have aC:=aM (hbox);have bM:=gF hg HB;have bN:=gF hg HB;replace HB:=rS HB hb;clear hb hbox hg;have bY:=cA2 aC.out)|((with_reducible refine gC (f:=93) rfl ?_);refine goesL_ (some 7) rfl rfl Tryd.func93 (by kernel_rfl) rfl #[.agg #[aD,.slice aG aA.length aH]] rfl xR ?_;(with_reducible refine (Z4.calls k aD _ _ aA bG true _ ?side1 ?side2 A2.out).mono ?_);(case side1=>exact cM (cB bH.out HB.out));(case side2=>exact bK.out);rintro e w8 ⟨rfl,hb⟩;refine ⟨_,rfl,?_⟩;replace aC:=rB aC hb;replace HB:=rS HB hb;(try clear hb);have bZ:=cA2 aC.out;have bI:0≤(bG:Int):=dT;have bJ:bG<(aA.length:Int):=dT;obtain ⟨bU,bQ,aI,aJ,aK,aN,aQ,aT,aV,aW,aX,bA,aE⟩:=at_T102 bH.out bG bI bJ;cases bQ;replace aI:=(HB.out.cell (World.block_lt_of_cell? w _ aI)).trans aI;replace aJ:=(HB.out.cell (World.block_lt_of_cell? w _ aJ)).trans aJ;replace aK:=(HB.out.cell (World.block_lt_of_cell? w _ aK)).trans aK;replace aN:=(HB.out.cell (World.block_lt_of_cell? w _ aN)).trans aN;replace aQ:=(HB.out.cell (World.block_lt_of_cell? w _ aQ)).trans aQ;replace aT:=(HB.out.cell (World.block_lt_of_cell? w _ aT)).trans aT;replace aV:=(HB.out.cell (World.block_lt_of_cell? w _ aV)).trans aV;replace aW:=(HB.out.cell (World.block_lt_of_cell? w _ aW)).trans aW;replace aX:=(HB.out.cell (World.block_lt_of_cell? w _ aX)).trans aX;replace bA:=(HB.out.cell (World.block_lt_of_cell? w _ bA)).trans bA;replace aE:=(HB.out.cell (World.block_lt_of_cell? w _ aE)).trans aE;replace bI:=eq_true bI;replace bJ:=eq_true bJ))
 go_ret
 exact ⟨xW,bl HB.out⟩

end Go.Proofs.YtljbdchibfjbdaaDoor.PFnIns
