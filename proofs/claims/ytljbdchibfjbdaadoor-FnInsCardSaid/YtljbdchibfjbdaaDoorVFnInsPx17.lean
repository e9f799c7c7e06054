/- A part of the proof of laws.FnIns. No condition beyond what its theorems say. -/
import Derived.Test.YtljbdchibfjbdaaDoorVFnInsPx13
namespace Go.Proofs.YtljbdchibfjbdaaDoor.PFnIns
open Go.RowKit Go.Proofs.YtljbdchibfjbdaaDoorW.PrintWords Go.Proofs.YtljbdchibfjbdaaDoorW.PrintLast Go.Proofs.YtljbdchibfjbdaaDoorW.PrintMore
set_option linter.unusedVariables false
set_option linter.unusedSimpArgs false

mutual
def Z4.l0:Nat→Int→Int→Int→List (S102)→Option (Int × Bool)
 | 0,_,_,_,_=>none
 | k+1,x4,x5,aC,aA=>if x5<(aA.length:Int) then ((Z11.f k aC aA).bind fun aD=>(Z4.j1 k x4 x5 aD aC aA)) else (Z4.j1 k x4 x5 false aC aA)
def Z4.j1:Nat→Int→Int→Bool→Int→List (S102)→Option (Int × Bool)
 | 0,_,_,_,_,_=>none
 | k+1,x4,x5,aD,aC,aA=>if aD=true then (if 0≤x5 then (if x5<(aA.length:Int) then (if ((rd_T102 aA x5).f1=true) then (if ((rd_T102 aA x5).f2.f2)=aC then (Z4.j2 k x4 x5 true aC aA ((rd_T102 aA x5).f0) ((rd_T102 aA x5).f1) ((rd_T102 aA x5).f2.f0) ((rd_T102 aA x5).f2.f1) ((rd_T102 aA x5).f2.f2) ((rd_T102 aA x5).f2.f3) ((rd_T102 aA x5).f3) ((rd_T102 aA x5).f4) ((rd_T102 aA x5).f5) ((rd_T102 aA x5).f6) ((rd_T102 aA x5).f7)) else (if ((rd_T102 aA x5).f2.f0) ≥ aC then (Z4.j2 k x4 x5 true aC aA ((rd_T102 aA x5).f0) ((rd_T102 aA x5).f1) ((rd_T102 aA x5).f2.f0) ((rd_T102 aA x5).f2.f1) ((rd_T102 aA x5).f2.f2) ((rd_T102 aA x5).f2.f3) ((rd_T102 aA x5).f3) ((rd_T102 aA x5).f4) ((rd_T102 aA x5).f5) ((rd_T102 aA x5).f6) ((rd_T102 aA x5).f7)) else (if ((rd_T102 aA x5).f2.f1) ≥ 20 then (Z4.j2 k x4 x5 true aC aA ((rd_T102 aA x5).f0) ((rd_T102 aA x5).f1) ((rd_T102 aA x5).f2.f0) ((rd_T102 aA x5).f2.f1) ((rd_T102 aA x5).f2.f2) ((rd_T102 aA x5).f2.f3) ((rd_T102 aA x5).f3) ((rd_T102 aA x5).f4) ((rd_T102 aA x5).f5) ((rd_T102 aA x5).f6) ((rd_T102 aA x5).f7)) else (Z4.j2 k x4 x5 (decide (((rd_T102 aA x5).f3) ≥ 8)) aC aA ((rd_T102 aA x5).f0) ((rd_T102 aA x5).f1) ((rd_T102 aA x5).f2.f0) ((rd_T102 aA x5).f2.f1) ((rd_T102 aA x5).f2.f2) ((rd_T102 aA x5).f2.f3) ((rd_T102 aA x5).f3) ((rd_T102 aA x5).f4) ((rd_T102 aA x5).f5) ((rd_T102 aA x5).f6) ((rd_T102 aA x5).f7))))) else (Z4.j2 k x4 x5 true aC aA ((rd_T102 aA x5).f0) ((rd_T102 aA x5).f1) ((rd_T102 aA x5).f2.f0) ((rd_T102 aA x5).f2.f1) ((rd_T102 aA x5).f2.f2) ((rd_T102 aA x5).f2.f3) ((rd_T102 aA x5).f3) ((rd_T102 aA x5).f4) ((rd_T102 aA x5).f5) ((rd_T102 aA x5).f6) ((rd_T102 aA x5).f7))) else (none)) else (none)) else (some (x4,decide (x4 ≥ 0)))
def Z4.j2:Nat→Int→Int→Bool→Int→List (S102)→Bool→Bool→Int→Int→Int→Int→Int→Int→Int→Int→Bool→Option (Int × Bool)
 | 0,_,_,_,_,_,_,_,_,_,_,_,_,_,_,_,_=>none
 | k+1,x4,x5,aX,aC,aA,aJ,aK,aD,aE,aG,aH,aN,aQ,aT,aV,aW=>if aX=true then (Z4.l0 k x4 (wrap64 (x5+1)) aC aA) else (if x4<0 then (Z4.l0 k x5 (wrap64 (x5+1)) aC aA) else (if 0≤x4 then (if x4<(aA.length:Int) then ((Z66.f aD aE aG aH ((rd_T102 aA x4).f2.f0) ((rd_T102 aA x4).f2.f1) ((rd_T102 aA x4).f2.f2) ((rd_T102 aA x4).f2.f3)).bind fun aI=>(if aI=true then (Z4.l0 k x5 (wrap64 (x5+1)) aC aA) else (Z4.l0 k x4 (wrap64 (x5+1)) aC aA))) else (none)) else (none)))
end
def Z4.f (k:Nat) (aA:Int) (aC:List (S102)):Option (Int × Bool):=Z4.l0 k (-1) 0 aA aC
theorem Z4.mono_l:∀ k,(∀ y0 y1 y2 y3,LeO (Z4.l0 k y0 y1 y2 y3) (Z4.l0 (k+1) y0 y1 y2 y3))∧(∀ y0 y1 y2 y3 y4,LeO (Z4.j1 k y0 y1 y2 y3 y4) (Z4.j1 (k+1) y0 y1 y2 y3 y4))∧(∀ y0 y1 y2 y3 y4 y5 y6 y7 y8 y9 aA aC aD aE aG aH,LeO (Z4.j2 k y0 y1 y2 y3 y4 y5 y6 y7 y8 y9 aA aC aD aE aG aH) (Z4.j2 (k+1) y0 y1 y2 y3 y4 y5 y6 y7 y8 y9 aA aC aD aE aG aH))
 | 0=>by refine ⟨?_,?_,?_⟩ <;> intros <;> intro r h <;> simp [Z4.l0,Z4.j1,Z4.j2] at h
 | k+1=>by
  obtain ⟨ih0,ih1,ih2⟩:=Z4.mono_l k;refine ⟨?_,?_,?_⟩
  ·intro y0 y1 y2 y3
   unfold Z4.l0
   repeat' (with_reducible first|apply ih1|apply Z11.mono|refine lI ?_ ?_|refine lB ?_ fun _=>?_)
  ·intro y0 y1 y2 y3 y4
   unfold Z4.j1
   repeat' (with_reducible first|apply ih2|exact lR _|refine lI ?_ ?_)
  ·intro y0 y1 y2 y3 y4 y5 y6 y7 y8 y9 aA aC aD aE aG aH
   unfold Z4.j2
   repeat' (with_reducible first|apply ih0|exact lR _|refine lI ?_ ?_|refine lB ?_ fun _=>?_)
theorem Z4.mono:∀ a0 a1 k,LeO (Z4.f k a0 a1) (Z4.f (k+1) a0 a1):=by
 intro a0 a1 k;obtain ⟨ih0,ih1,ih2⟩:=Z4.mono_l k;unfold Z4.f
 repeat' (with_reducible apply ih0)
def Z4.T7:Bool × List (List Nat × List Nat):=(true,[([],[]),([0],[0]),([1],[1]),([2],[2]),([3,2],[2,3]),([2],[2]),([5,2],[2,5]),([2],[2]),([6,7,2],[2,6,7]),([8,2],[2,8]),([9,2],[2,9]),([4,10,2,2],[2,4,10]),([2,11],[2,11])])
def Z4.B7:List Nat:=[0,1,3,7,15,7,39,7,231,487,999,2047,4095]
theorem Z4.tab7:rtab .any (opsOf Tryd.f93 7)=Z4.T7:=by kernel_rfl
theorem Z4.bits7:waitsOk Z4.T7.2 Z4.B7=true:=by kernel_rfl
set_option maxHeartbeats 60000000 in
set_option maxRecDepth 100000 in
theorem Z4.calls (k:Nat) (aH:Int) (cN:Option Addr) (bY:Nat) (aA:List (S102)) (r1:Int) (r2:Bool) (w:World) (hr0_1:Kd.C k102 w cN aA.length aA) (hc0_1:aA.length≤bY) (h:Z4.f k aH aA=some (r1,r2)) :
  Calls Tryd.prog 93 #[.agg #[aH,.slice cN aA.length bY]] w fun e w'=>e=.returned (.tuple #[r1,r2])∧Below w.heap.size w w':=by
 have fL:=Tryd.underlying79;have eG:=Tryd.underlying102;have fM:=Tryd.underlying25;have cK:=aM hr0_1;have dW:=aM hc0_1;clear hr0_1 hc0_1;have HB:=aM (Below.refl w.heap.size w);have H:(Z4.l0 k (-1) 0 aH aA)=some (r1,r2):=h;clear h;have H':=aM H;clear H;go_enter Tryd.func93,Tryd.ntmps93
 go_wp2_with (((with_reducible refine gD (N:=1) rfl ?_);refine bE (N:=1) (cs:=#[aH,.slice cN aA.length bY]) (t:=79) ?_;intro cE hg w2 hbox hb;have aE:=aM (hbox);have eH:=gF hg HB;have eI:=gF hg HB;replace HB:=rS HB hb;clear hb hbox hg))
 go_loopg [4,5] k (fun kq v4 v5 w'=>∃ (aG:Int) (aC:Int),v4=.int .i64 aG∧v5=.int .i64 aC∧Aside0 (Z4.l0 kq aG aC aH aA=some (r1,r2))∧Aside0 (kq≤k)∧Aside0 (w'.heap[cE]?=some (.cells #[aH,(.slice cN aA.length bY)] 79 (0,0)))∧Aside0 (Below w.heap.size w w'))
 case atStart=>exact ⟨((-1)),(0),xE,xE,H',⟨Nat.le_refl _⟩,⟨bk aE.out⟩,⟨bl HB.out⟩⟩
 case round =>
  clear H'
  obtain ⟨aG,aC,rfl,rfl,HA,bJ,aE,HB⟩:=hrel;cases gk with
  | zero=>exact absurd HA.out (by simp [Z4.l0])
  | succ k1 =>
   have H:=HA.out;clear HA;simp only [Z4.l0] at H;have dS:=aM H;clear H;go_upto_region 3 with (fail)
   go_cut [15] (fun eE wc=>∃ (kq:Nat) (cL:Bool),eE=.bool cL∧Aside0 (Z4.j1 kq aG aC cL aH aA=some (r1,r2))∧Aside0 (kq≤k1)∧Aside0 (wc.heap[cE]?=some (.cells #[aH,(.slice cN aA.length bY)] 79 (0,0)))∧Aside0 (Below w.heap.size w wc))
   case first =>
    have H:=dS.out;clear dS
    by_cases c4:aC<(aA.length:Int)
    case neg =>
     rw [if_neg c4] at H
     have bZ:=decide_eq_false c4;clear c4
     (skip)
     have H':=aM H;clear H;have fN:=cA2 aE.out;go_wp2
     go_meet
     case rel=>skip;exact ⟨_,(false),xE,H',⟨by have:=bJ.out;omega⟩,⟨bk aE.out⟩,⟨bl HB.out⟩⟩
    rw [if_pos c4] at H
    have bZ:=decide_eq_true c4;clear c4
    (skip)
    obtain ⟨dU,eA,H⟩:=hB H;have A5:=aM eA;clear eA;have H':=aM H;clear H;have fO:=cA2 aE.out;go_wp2_with ((go_at_call 78;(with_reducible refine (Z11.calls k1 aH _ _ aA dU _ ?side1 ?side2 A5.out).mono ?_);(case side1=>exact cM (cB cK.out HB.out));(case side2=>exact dW.out);rintro e w7 ⟨rfl,hb⟩;replace aE:=rB aE hb;replace HB:=rS HB hb;(try clear hb)))
    go_meet
    case rel=>skip;exact ⟨_,(dU),xE,H',⟨by have:=bJ.out;omega⟩,⟨bk aE.out⟩,⟨bl HB.out⟩⟩
   case rest =>
    clear dS
    repeat first|clear p2|clear c4|clear bZ|clear p2
    obtain ⟨kq,cL,rfl,HA,HJ2,aE,HB⟩:=hcut;cases kq with
    | zero=>exact absurd HA.out (by simp [Z4.j1])
    | succ cR =>
     have H:=HA.out;clear HA;simp only [Z4.j1] at H
     by_cases c9:cL=true
     case neg =>
      replace c9:=Bool.eq_false_iff.mpr c9;subst c9;replace H:=hF H;simp only [Option.some.injEq,Prod.mk.injEq] at H;obtain ⟨rfl,rfl⟩:=H;go_wp2
      go_ret2
      exact ⟨xW,bl HB.out⟩
     subst c9;replace H:=hP H rfl;obtain ⟨dX,H⟩:=gI H;obtain ⟨dY,H⟩:=gI H;have dK:=aM H;clear H;have eJ:=cA2 aE.out;have dE:0≤(aC:Int):=dT;have dF:aC<(aA.length:Int):=dT;obtain ⟨bX,eC,cS,cT,cU,cV,cW,cX,cY,dA,dB,dC,cO⟩:=at_T102 cK.out aC dE dF;cases eC
     replace cS:=xB HB cS;replace cT:=xB HB cT;replace cU:=xB HB cU;replace cV:=xB HB cV;replace cW:=xB HB cW;replace cX:=xB HB cX;replace cY:=xB HB cY;replace dA:=xB HB dA;replace dB:=xB HB dB;replace dC:=xB HB dC;replace cO:=xB HB cO;replace dE:=eq_true dE;replace dF:=eq_true dF;go_upto_region 6 with (((with_reducible refine gD (N:=6) rfl ?_);refine bE (N:=6) (cs:=#[.bool false,.bool false,.int .i64 0,.int .i64 0,.int .i64 0,.int .i64 0,.int .i64 0,.int .i64 0,.int .i64 0,.int .i64 0,.bool false]) (t:=102) ?_;intro dG hg fP hbox hb;have aD:=aM (hbox);have eK:=gF hg HB;have eL:=gF hg HB;have bH:=nM hg aE;have bI:=nH hg aE;replace aE:=rB aE hb;replace HB:=rS HB hb;clear hb hbox hg;have eM:=bI.out;have eN:=bH.out;have eO:=cA11 aD.out))
     go_cut [52] (fun eF wc=>∃ (kq:Nat) (cG:Bool),eF=.bool cG∧Aside0 (Z4.j2 kq aG aC cG aH aA ((rd_T102 aA aC).f0) ((rd_T102 aA aC).f1) ((rd_T102 aA aC).f2.f0) ((rd_T102 aA aC).f2.f1) ((rd_T102 aA aC).f2.f2) ((rd_T102 aA aC).f2.f3) ((rd_T102 aA aC).f3) ((rd_T102 aA aC).f4) ((rd_T102 aA aC).f5) ((rd_T102 aA aC).f6) ((rd_T102 aA aC).f7)=some (r1,r2))∧Aside0 (kq≤cR)∧Aside0 (wc.heap[cE]?=some (.cells #[aH,(.slice (some bX) aA.length bY)] 79 (0,0)))∧Aside0 (wc.heap[dG]?=some (.cells #[((rd_T102 aA aC).f0),((rd_T102 aA aC).f1),((rd_T102 aA aC).f2.f0),((rd_T102 aA aC).f2.f1),((rd_T102 aA aC).f2.f2),((rd_T102 aA aC).f2.f3),((rd_T102 aA aC).f3),((rd_T102 aA aC).f4),((rd_T102 aA aC).f5),((rd_T102 aA aC).f6),((rd_T102 aA aC).f7)] 102 (0,0)))∧Aside0 (Below w.heap.size w wc))
     case first =>
      have H:=dK.out;clear dK;obtain ⟨cA,hbq17⟩:∃ b_:Bool,b_=((rd_T102 aA aC).f1):=⟨_,rfl⟩;replace H:(if (cA=true) then (if ((rd_T102 aA aC).f2.f2)=aH then (Z4.j2 cR aG aC true aH aA ((rd_T102 aA aC).f0) cA ((rd_T102 aA aC).f2.f0) ((rd_T102 aA aC).f2.f1) ((rd_T102 aA aC).f2.f2) ((rd_T102 aA aC).f2.f3) ((rd_T102 aA aC).f3) ((rd_T102 aA aC).f4) ((rd_T102 aA aC).f5) ((rd_T102 aA aC).f6) ((rd_T102 aA aC).f7)) else (if ((rd_T102 aA aC).f2.f0) ≥ aH then (Z4.j2 cR aG aC true aH aA ((rd_T102 aA aC).f0) cA ((rd_T102 aA aC).f2.f0) ((rd_T102 aA aC).f2.f1) ((rd_T102 aA aC).f2.f2) ((rd_T102 aA aC).f2.f3) ((rd_T102 aA aC).f3) ((rd_T102 aA aC).f4) ((rd_T102 aA aC).f5) ((rd_T102 aA aC).f6) ((rd_T102 aA aC).f7)) else (if ((rd_T102 aA aC).f2.f1) ≥ 20 then (Z4.j2 cR aG aC true aH aA ((rd_T102 aA aC).f0) cA ((rd_T102 aA aC).f2.f0) ((rd_T102 aA aC).f2.f1) ((rd_T102 aA aC).f2.f2) ((rd_T102 aA aC).f2.f3) ((rd_T102 aA aC).f3) ((rd_T102 aA aC).f4) ((rd_T102 aA aC).f5) ((rd_T102 aA aC).f6) ((rd_T102 aA aC).f7)) else (Z4.j2 cR aG aC (decide (((rd_T102 aA aC).f3) ≥ 8)) aH aA ((rd_T102 aA aC).f0) cA ((rd_T102 aA aC).f2.f0) ((rd_T102 aA aC).f2.f1) ((rd_T102 aA aC).f2.f2) ((rd_T102 aA aC).f2.f3) ((rd_T102 aA aC).f3) ((rd_T102 aA aC).f4) ((rd_T102 aA aC).f5) ((rd_T102 aA aC).f6) ((rd_T102 aA aC).f7))))) else (Z4.j2 cR aG aC true aH aA ((rd_T102 aA aC).f0) cA ((rd_T102 aA aC).f2.f0) ((rd_T102 aA aC).f2.f1) ((rd_T102 aA aC).f2.f2) ((rd_T102 aA aC).f2.f3) ((rd_T102 aA aC).f3) ((rd_T102 aA aC).f4) ((rd_T102 aA aC).f5) ((rd_T102 aA aC).f6) ((rd_T102 aA aC).f7)))=some (r1,r2):=by rw [← hbq17] at H;exact H
      have bG:=aM hbq17;clear hbq17
      (try rw [← bG.out])
      by_cases dJ:(cA=true)
      case neg =>
       replace dJ:=Bool.eq_false_iff.mpr dJ;subst dJ;replace H:=hF H;have H':=aM H;clear H;have eP:=bI.out;have eQ:=bH.out;have eR:=cA11 aD.out;go_wp2
       go_meet
       case rel=>(try rw [← bG.out]);exact ⟨_,(true),xE,H',⟨by have:=bJ.out;have:=HJ2.out;omega⟩,⟨fm aE.out⟩,⟨bm aD.out⟩,⟨bl HB.out⟩⟩
      subst dJ;replace H:=hP H rfl
      by_cases cH:((rd_T102 aA aC).f2.f2)=aH
      case pos =>
       rw [if_pos cH] at H
       have dM:(((rd_T102 aA aC).f2.f2) == aH)=true:=beq_iff_eq.mpr cH;have dN:(((rd_T102 aA aC).f2.f2) != aH)=false:=bne_eq_false_iff_eq.mpr cH;clear cH;have H':=aM H;clear H;have eS:=bI.out;have eT:=bH.out;have eU:=cA11 aD.out;have eV:=cA2 aE.out;go_wp2
       go_meet
       case rel=>(try rw [← bG.out]);exact ⟨_,(true),xE,H',⟨by have:=bJ.out;have:=HJ2.out;omega⟩,⟨fm aE.out⟩,⟨bm aD.out⟩,⟨bl HB.out⟩⟩
      rw [if_neg cH] at H
      have dM:(((rd_T102 aA aC).f2.f2) == aH)=false:=beq_eq_false_iff_ne.mpr cH;have dN:(((rd_T102 aA aC).f2.f2) != aH)=true:=bne_iff_ne.mpr cH
      by_cases cP:((rd_T102 aA aC).f2.f0) ≥ aH
      case pos =>
       rw [if_pos cP] at H
       have dO:=decide_eq_true cP;clear cP;have H':=aM H;clear H;have eW:=bI.out;have eX:=bH.out;have eY:=cA11 aD.out;have eZ:=cA2 aE.out;go_wp2
       go_meet
       case rel=>(try rw [← bG.out]);exact ⟨_,(true),xE,H',⟨by have:=bJ.out;have:=HJ2.out;omega⟩,⟨fm aE.out⟩,⟨bm aD.out⟩,⟨bl HB.out⟩⟩
      rw [if_neg cP] at H
      have dO:=decide_eq_false cP;clear cP
      by_cases cQ:((rd_T102 aA aC).f2.f1) ≥ 20
      case pos =>
       rw [if_pos cQ] at H
       have dP:=decide_eq_true cQ;clear cQ;have H':=aM H;clear H;have fA:=bI.out;have fB:=bH.out;have fC:=cA11 aD.out;have fD:=cA2 aE.out;go_wp2
       go_meet
       case rel=>(try rw [← bG.out]);exact ⟨_,(true),xE,H',⟨by have:=bJ.out;have:=HJ2.out;omega⟩,⟨fm aE.out⟩,⟨bm aD.out⟩,⟨bl HB.out⟩⟩
      rw [if_neg cQ] at H
      have dP:=decide_eq_false cQ;clear cQ;have H':=aM H;clear H;have fE:=bI.out;have fF:=bH.out;have fG:=cA11 aD.out;have fH:=cA2 aE.out;go_wp2
      go_meet
      case rel=>(try rw [← bG.out]);exact ⟨_,(decide (((rd_T102 aA aC).f3) ≥ 8)),xE,H',⟨by have:=bJ.out;have:=HJ2.out;omega⟩,⟨fm aE.out⟩,⟨bm aD.out⟩,⟨bl HB.out⟩⟩
     case rest =>
      clear dK
      repeat first|clear dX|clear dY|clear dE|clear dF
      obtain ⟨kq,cG,rfl,HA,HJ11,aE,aD,HB⟩:=hcut;cases kq with
      | zero=>exact absurd HA.out (by simp [Z4.j2])
      | succ dH =>
       have H:=HA.out;clear HA;simp only [Z4.j2] at H
       by_cases dQ:cG=true
       case pos =>
        subst dQ;replace H:=hP H rfl;have H':=aM H;clear H;go_wp2
        go_roundg dH
        case measure=>have:=bJ.out;have:=HJ2.out;have:=HJ11.out;omega
        case rel=>skip;exact ⟨(aG),(wS aC),xE,xE,H',⟨by have:=bJ.out;have:=HJ2.out;have:=HJ11.out;omega⟩,⟨bk aE.out⟩,⟨bl HB.out⟩⟩
       replace dQ:=Bool.eq_false_iff.mpr dQ;subst dQ;replace H:=hF H
       by_cases dD:aG<0
       case pos =>
        rw [if_pos dD] at H
        have dZ:=decide_eq_true dD;clear dD;have H':=aM H;clear H
        try go_wp2
        replace aE:=aM (blk_drew aE.out);replace aD:=aM (blk_drew aD.out);replace HB:=aM (below_drew1 HB.out);refine start_ (n:=13) (S:=fun w'=>True) (ds:=[]) (dn 13 0) (by kernel_rfl) rfl rfl trivial (fun hHeld=>?_);refine with_tabW Z4.tab7 Z4.bits7 (fun HT_ HW_=>?_)
        generalize wc.drew=gB at aE aD HB hHeld ⊢
        refine nY (N:=some 53) HT_ ?_;refine nY (N:=some 54) HT_ ?_;refine nY (N:=some 55) HT_ ?_;refine nU (N:=some 56) HT_ ?_;refine nU (N:=some 57) HT_ ?_;refine nU (N:=some 58) HT_ ?_;refine nU (N:=some 59) HT_ ?_;refine nU (N:=some 60) HT_ ?_;refine nU (N:=some 61) HT_ ?_;refine nU (N:=some 62) HT_ ?_;refine nU (N:=some 63) HT_ ?_;refine nU (N:=some 64) HT_ ?_;refine nY (N:=some 65) HT_ ?_;refine done_ (done_of HT_.out (by kernel_rfl)) ?_
        try go_wp2
        go_roundg dH
        case measure=>have:=bJ.out;have:=HJ2.out;have:=HJ11.out;omega
        case rel=>skip;exact ⟨(aC),(wS aC),xE,xE,H',⟨by have:=bJ.out;have:=HJ2.out;have:=HJ11.out;omega⟩,⟨bk aE.out⟩,⟨bl HB.out⟩⟩
       rw [if_neg dD] at H
       have dZ:=decide_eq_false dD;clear dD;obtain ⟨fI,H⟩:=gI H;obtain ⟨fK,H⟩:=gI H;obtain ⟨eD,dV,H⟩:=hB H;have eB:=aM dV;clear dV
       by_cases dR:eD=true
       case pos =>
        subst dR;replace H:=hP H rfl;have H':=aM H;clear H
        try go_wp2
        replace aE:=aM (blk_drew aE.out);replace aD:=aM (blk_drew aD.out);replace HB:=aM (below_drew1 HB.out);have cC:0≤(aG:Int):=dT;have cD:aG<(aA.length:Int):=dT;obtain ⟨dI,dL,aJ,aK,aN,aQ,aT,aV,aW,aX,bA,bD,aI⟩:=at_T102 cK.out aG cC cD;have bK:=aI;have bL:=bD;have bM:=bA;have bN:=aX;have bO:=aW;have bP:=aV;have bQ:=aT;have bT:=aQ;have bU:=aN;have bV:=aK;have bW:=aJ;obtain rfl:bX=dI:=(by injection dL)
        replace aJ:=xB HB aJ;replace aK:=xB HB aK;replace aN:=xB HB aN;replace aQ:=xB HB aQ;replace aT:=xB HB aT;replace aV:=xB HB aV;replace aW:=xB HB aW;replace aX:=xB HB aX;replace bA:=xB HB bA;replace bD:=xB HB bD;replace aI:=xB HB aI;replace cC:=eq_true cC;replace cD:=eq_true cD;refine start_ (n:=13) (S:=fun w'=>cT11 w' dG (.bool ((rd_T102 aA aC).f0)) (.bool ((rd_T102 aA aC).f1)) (.int .i64 ((rd_T102 aA aC).f2.f0)) (.int .i64 ((rd_T102 aA aC).f2.f1)) (.int .i64 ((rd_T102 aA aC).f2.f2)) (.int .i64 ((rd_T102 aA aC).f2.f3)) (.int .i64 ((rd_T102 aA aC).f3)) (.int .i64 ((rd_T102 aA aC).f4)) (.int .i64 ((rd_T102 aA aC).f5)) (.int .i64 ((rd_T102 aA aC).f6)) (.bool ((rd_T102 aA aC).f7)) (cT2 w' cE (.int .i64 aH) (.slice (some bX) aA.length bY) (cE102 w' bX (aG).toNat (rd_T102 aA aG)))) (ds:=[]) (dn 13 0) (by kernel_rfl) rfl rfl ⟨cI aD.out 0,cI aD.out 1,cI aD.out 2,cI aD.out 3,cI aD.out 4,cI aD.out 5,cI aD.out 6,cI aD.out 7,cI aD.out 8,cI aD.out 9,cI aD.out 10,cI aE.out 0,cI aE.out 1,(xB HB bW :),(xB HB bV :),(xB HB bU :),(xB HB bT :),(xB HB bQ :),(xB HB bP :),(xB HB bO :),(xB HB bN :),(xB HB bM :),(xB HB bL :),(xB HB bK :)⟩ (fun hHeld=>?_);refine with_tabW Z4.tab7 Z4.bits7 (fun HT_ HW_=>?_)
        generalize wc.drew=gG at aE aD HB aJ aK aI aN aQ aT aV aW aX bA bD hHeld ⊢
        refine nY (N:=some 53) HT_ ?_;refine nY (N:=some 54) HT_ ?_;refine nY (N:=some 55) HT_ ?_;refine nY (N:=some 56) HT_ ?_;refine pZ 5 58 (bv 13 47) HT_ ?_;refine pZ 7 60 (bv 13 175) HT_ ?_;refine aZ 4 57 (bv 13 191) HT_ HW_ hHeld ?_;refine aZ 6 59 (bv 13 255) HT_ HW_ hHeld ?_;refine pZ 8 61 (bv 13 511) HT_ ?_;refine pZ 9 62 (bv 13 1023) HT_ ?_;refine aZ 10 63 (bv 13 2047) HT_ HW_ hHeld ?_;refine one_ (i:=11) (N:=some 64) (bv 13 4095) rfl rfl (one_of HT_.out (by kernel_rfl)) (by decide) (fun K hK=>?_)
        refine goes_ Tryd.func99 (by kernel_rfl) rfl #[.agg #[((rd_T102 aA aC).f2.f0),((rd_T102 aA aC).f2.f1),((rd_T102 aA aC).f2.f2),((rd_T102 aA aC).f2.f3)],.agg #[((rd_T102 aA aG).f2.f0),((rd_T102 aA aG).f2.f1),((rd_T102 aA aG).f2.f2),((rd_T102 aA aG).f2.f3)]] (by rfl) rfl rfl xR ?_
        with_reducible refine (Z66.calls ((rd_T102 aA aC).f2.f0) ((rd_T102 aA aC).f2.f1) ((rd_T102 aA aC).f2.f2) ((rd_T102 aA aC).f2.f3) ((rd_T102 aA aG).f2.f0) ((rd_T102 aA aG).f2.f1) ((rd_T102 aA aG).f2.f2) ((rd_T102 aA aG).f2.f3) true _ eB.out).mono ?_
        rintro e gH ⟨rfl,hb⟩;refine ⟨_,rfl,?_⟩;replace aE:=rB aE hb;replace aD:=rB aD hb;replace HB:=rS HB hb
        (try clear hb)
        refine hK.out _ _ ⟨cI aD.out 0,cI aD.out 1,cI aD.out 2,cI aD.out 3,cI aD.out 4,cI aD.out 5,cI aD.out 6,cI aD.out 7,cI aD.out 8,cI aD.out 9,cI aD.out 10,cI aE.out 0,cI aE.out 1,(xB HB bW :),(xB HB bV :),(xB HB bU :),(xB HB bT :),(xB HB bQ :),(xB HB bP :),(xB HB bO :),(xB HB bN :),(xB HB bM :),(xB HB bL :),(xB HB bK :)⟩ (fun hHeld=>?_)
        clear hK K;refine norm_ (a':=?_) ?_ ?_;rotate_left
        ·show Act.put _ (some 64) _=_
         simp only [Act.put,sA,sZ,sS,i64_w,i32_w]
         rfl
        refine pZ 12 65 (bv 13 8191) HT_ ?_;refine done_ (done_of HT_.out (by kernel_rfl)) ?_
        try go_wp2
        go_roundg dH
        case measure=>have:=bJ.out;have:=HJ2.out;have:=HJ11.out;omega
        case rel=>skip;exact ⟨(aC),(wS aC),xE,xE,H',⟨by have:=bJ.out;have:=HJ2.out;have:=HJ11.out;omega⟩,⟨bk aE.out⟩,⟨bl HB.out⟩⟩
       replace dR:=Bool.eq_false_iff.mpr dR;subst dR;replace H:=hF H;have H':=aM H;clear H
       try go_wp2
       replace aE:=aM (blk_drew aE.out);replace aD:=aM (blk_drew aD.out);replace HB:=aM (below_drew1 HB.out);have cC:0≤(aG:Int):=dT;have cD:aG<(aA.length:Int):=dT;obtain ⟨dI,dL,aJ,aK,aN,aQ,aT,aV,aW,aX,bA,bD,aI⟩:=at_T102 cK.out aG cC cD;have bK:=aI;have bL:=bD;have bM:=bA;have bN:=aX;have bO:=aW;have bP:=aV;have bQ:=aT;have bT:=aQ;have bU:=aN;have bV:=aK;have bW:=aJ;obtain rfl:bX=dI:=(by injection dL)
       replace aJ:=xB HB aJ;replace aK:=xB HB aK;replace aN:=xB HB aN;replace aQ:=xB HB aQ;replace aT:=xB HB aT;replace aV:=xB HB aV;replace aW:=xB HB aW;replace aX:=xB HB aX;replace bA:=xB HB bA;replace bD:=xB HB bD;replace aI:=xB HB aI;replace cC:=eq_true cC;replace cD:=eq_true cD;refine start_ (n:=13) (S:=fun w'=>cT11 w' dG (.bool ((rd_T102 aA aC).f0)) (.bool ((rd_T102 aA aC).f1)) (.int .i64 ((rd_T102 aA aC).f2.f0)) (.int .i64 ((rd_T102 aA aC).f2.f1)) (.int .i64 ((rd_T102 aA aC).f2.f2)) (.int .i64 ((rd_T102 aA aC).f2.f3)) (.int .i64 ((rd_T102 aA aC).f3)) (.int .i64 ((rd_T102 aA aC).f4)) (.int .i64 ((rd_T102 aA aC).f5)) (.int .i64 ((rd_T102 aA aC).f6)) (.bool ((rd_T102 aA aC).f7)) (cT2 w' cE (.int .i64 aH) (.slice (some bX) aA.length bY) (cE102 w' bX (aG).toNat (rd_T102 aA aG)))) (ds:=[]) (dn 13 0) (by kernel_rfl) rfl rfl ⟨cI aD.out 0,cI aD.out 1,cI aD.out 2,cI aD.out 3,cI aD.out 4,cI aD.out 5,cI aD.out 6,cI aD.out 7,cI aD.out 8,cI aD.out 9,cI aD.out 10,cI aE.out 0,cI aE.out 1,(xB HB bW :),(xB HB bV :),(xB HB bU :),(xB HB bT :),(xB HB bQ :),(xB HB bP :),(xB HB bO :),(xB HB bN :),(xB HB bM :),(xB HB bL :),(xB HB bK :)⟩ (fun hHeld=>?_);refine with_tabW Z4.tab7 Z4.bits7 (fun HT_ HW_=>?_)
       generalize wc.drew=gJ at aE aD HB aJ aK aI aN aQ aT aV aW aX bA bD hHeld ⊢
       refine nY (N:=some 53) HT_ ?_;refine nY (N:=some 54) HT_ ?_;refine nY (N:=some 55) HT_ ?_;refine nY (N:=some 56) HT_ ?_;refine pZ 5 58 (bv 13 47) HT_ ?_;refine pZ 7 60 (bv 13 175) HT_ ?_;refine aZ 4 57 (bv 13 191) HT_ HW_ hHeld ?_;refine aZ 6 59 (bv 13 255) HT_ HW_ hHeld ?_;refine pZ 8 61 (bv 13 511) HT_ ?_;refine pZ 9 62 (bv 13 1023) HT_ ?_;refine aZ 10 63 (bv 13 2047) HT_ HW_ hHeld ?_;refine one_ (i:=11) (N:=some 64) (bv 13 4095) rfl rfl (one_of HT_.out (by kernel_rfl)) (by decide) (fun K hK=>?_)
       refine goes_ Tryd.func99 (by kernel_rfl) rfl #[.agg #[((rd_T102 aA aC).f2.f0),((rd_T102 aA aC).f2.f1),((rd_T102 aA aC).f2.f2),((rd_T102 aA aC).f2.f3)],.agg #[((rd_T102 aA aG).f2.f0),((rd_T102 aA aG).f2.f1),((rd_T102 aA aG).f2.f2),((rd_T102 aA aG).f2.f3)]] (by rfl) rfl rfl xR ?_
       with_reducible refine (Z66.calls ((rd_T102 aA aC).f2.f0) ((rd_T102 aA aC).f2.f1) ((rd_T102 aA aC).f2.f2) ((rd_T102 aA aC).f2.f3) ((rd_T102 aA aG).f2.f0) ((rd_T102 aA aG).f2.f1) ((rd_T102 aA aG).f2.f2) ((rd_T102 aA aG).f2.f3) false _ eB.out).mono ?_
       rintro e gK ⟨rfl,hb⟩;refine ⟨_,rfl,?_⟩;replace aE:=rB aE hb;replace aD:=rB aD hb;replace HB:=rS HB hb
       (try clear hb)
       refine hK.out _ _ ⟨cI aD.out 0,cI aD.out 1,cI aD.out 2,cI aD.out 3,cI aD.out 4,cI aD.out 5,cI aD.out 6,cI aD.out 7,cI aD.out 8,cI aD.out 9,cI aD.out 10,cI aE.out 0,cI aE.out 1,(xB HB bW :),(xB HB bV :),(xB HB bU :),(xB HB bT :),(xB HB bQ :),(xB HB bP :),(xB HB bO :),(xB HB bN :),(xB HB bM :),(xB HB bL :),(xB HB bK :)⟩ (fun hHeld=>?_)
       clear hK K;refine norm_ (a':=?_) ?_ ?_;rotate_left
       ·show Act.put _ (some 64) _=_
        simp only [Act.put,sA,sZ,sS,i64_w,i32_w]
        rfl
       refine pZ 12 65 (bv 13 8191) HT_ ?_;refine done_ (done_of HT_.out (by kernel_rfl)) ?_
       try go_wp2
       go_roundg dH
       case measure=>have:=bJ.out;have:=HJ2.out;have:=HJ11.out;omega
       case rel=>skip;exact ⟨(aG),(wS aC),xE,xE,H',⟨by have:=bJ.out;have:=HJ2.out;have:=HJ11.out;omega⟩,⟨bk aE.out⟩,⟨bl HB.out⟩⟩

end Go.Proofs.YtljbdchibfjbdaaDoor.PFnIns
