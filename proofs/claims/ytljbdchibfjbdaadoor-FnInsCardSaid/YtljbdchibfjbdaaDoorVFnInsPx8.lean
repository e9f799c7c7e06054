/- A part of the proof of laws.FnIns. No condition beyond what its theorems say. -/
import Derived.Test.YtljbdchibfjbdaaDoorVFnInsPx5
import Derived.Test.YtljbdchibfjbdaaDoorVFnInsPx7
namespace Go.Proofs.YtljbdchibfjbdaaDoor.PFnIns
open Go.RowKit Go.Proofs.YtljbdchibfjbdaaDoorW.PrintWords Go.Proofs.YtljbdchibfjbdaaDoorW.PrintLast Go.Proofs.YtljbdchibfjbdaaDoorW.PrintMore
set_option linter.unusedVariables false
set_option linter.unusedSimpArgs false

mutual
def Z13.j0:Nat→List Int→Int→Bool→Option (Int × Int × Int × Int × Int × Int × Int × Bool × Int × Bool)
 | 0,_,_,_=>none
 | k+1,x0,x1,aK=>if aK=true then (some (0,0,0,0,0,0,0,false,0,false)) else ((Z41.f k x0 x1 false).bind fun aC=>((Z41.f k x0 aC.2.1 aC.2.2).bind fun aA=>(if aC.1=1 then ((Z41.f k x0 aA.2.1 aA.2.2).bind fun aD=>((Z41.f k x0 aD.2.1 aD.2.2).bind fun aE=>((Z41.f k x0 aE.2.1 aE.2.2).bind fun aG=>((Z41.f k x0 aG.2.1 aG.2.2).bind fun aH=>((Z41.f k x0 aH.2.1 aH.2.2).bind fun aI=>(Z13.j1 k x0 x1 x0 aI.2.1 aI.2.2 aC.1 aA.1 aD.1 aE.1 aG.1 aH.1 aI.1 false)))))) else (if aC.1=3 then ((Z41.f k x0 aA.2.1 aA.2.2).bind fun aJ=>(Z13.j1 k x0 x1 x0 aJ.2.1 aJ.2.2 aC.1 aA.1 0 0 0 0 0 (aJ.1 == 1))) else (Z13.j1 k x0 x1 x0 aA.2.1 aA.2.2 aC.1 aA.1 0 0 0 0 0 false)))))
def Z13.j1:Nat→List Int→Int→List Int→Int→Bool→Int→Int→Int→Int→Int→Int→Int→Bool→Option (Int × Int × Int × Int × Int × Int × Int × Bool × Int × Bool)
 | 0,_,_,_,_,_,_,_,_,_,_,_,_,_=>none
 | k+1,x0,x1,aT,aV,aN,aA,aC,aD,aE,aG,aH,aI,aJ=>(Z38.f k aA aC aD aE aG aH aI aJ).bind fun aK=>(if aN=true then (some (0,0,0,0,0,0,0,false,0,false)) else (if (aK.length:Int)=0 then (some (0,0,0,0,0,0,0,false,0,false)) else (if 0≤x1 then (if x1≤(x0.length:Int) then ((Z80.f (x0.drop (x1:Int).toNat) aK).bind fun aQ=>(if aQ=true then (some (aA,aC,aD,aE,aG,aH,aI,aJ,wrap64 (x1+(aK.length:Int)),true)) else (some (0,0,0,0,0,0,0,false,0,false)))) else (none)) else (none))))
end
def Z13.f (k:Nat) (l0:List Int) (a1:Int):Option (Int × Int × Int × Int × Int × Int × Int × Bool × Int × Bool):=if a1<0 then (Z13.j0 k l0 a1 true) else (Z13.j0 k l0 a1 (decide (a1 > (l0.length:Int))))
theorem Z13.mono_l:∀ k,(∀ y0 y1 y2,LeO (Z13.j0 k y0 y1 y2) (Z13.j0 (k+1) y0 y1 y2))∧(∀ y0 y1 y2 y3 y4 y5 y6 y7 y8 y9 aA aC aD,LeO (Z13.j1 k y0 y1 y2 y3 y4 y5 y6 y7 y8 y9 aA aC aD) (Z13.j1 (k+1) y0 y1 y2 y3 y4 y5 y6 y7 y8 y9 aA aC aD))
 | 0=>by refine ⟨?_,?_⟩ <;> intros <;> intro r h <;> simp [Z13.j0,Z13.j1] at h
 | k+1=>by
  obtain ⟨ih0,ih1⟩:=Z13.mono_l k;refine ⟨?_,?_⟩
  ·intro y0 y1 y2
   unfold Z13.j0
   repeat' (with_reducible first|apply ih1|apply Z41.mono|exact lR _|refine lI ?_ ?_|refine lB ?_ fun _=>?_)
  ·intro y0 y1 y2 y3 y4 y5 y6 y7 y8 y9 aA aC aD
   unfold Z13.j1
   repeat' (with_reducible first|apply Z38.mono|exact lR _|refine lB ?_ fun _=>?_)
theorem Z13.mono:∀ a0 a1 k,LeO (Z13.f k a0 a1) (Z13.f (k+1) a0 a1):=by
 intro a0 a1 k;obtain ⟨ih0,ih1⟩:=Z13.mono_l k;unfold Z13.f
 repeat' (with_reducible first|apply ih0|refine lI ?_ ?_)
set_option maxHeartbeats 60000000 in
set_option maxRecDepth 100000 in
theorem Z13.calls (k:Nat) (A0:Option Addr) (c0:Nat) (l0:List Int) (a1 r1 r2 r3 r4 r5 r6 r7:Int) (r8:Bool) (r9:Int) (cK:Bool) (w:World) (hr0:Kd.C (Kd.int .u8) w A0 l0.length l0) (hc0:l0.length≤c0) (h:Z13.f k l0 a1=some (r1,r2,r3,r4,r5,r6,r7,r8,r9,cK)) :
  Calls Tryd.prog 9 #[.slice A0 l0.length c0,a1] w fun e w'=>e=.returned (.tuple #[.agg #[r1,r2,r3,r4,r5,r6,r7,r8],r9,cK])∧Below w.heap.size w w':=by
 have jF:=Tryd.underlying27;have jG:=Tryd.underlying68;have bI:=aM hr0;have bJ:=aM hc0;clear hr0 hc0;have HB:=aM (Below.refl w.heap.size w);have H:(if a1<0 then (Z13.j0 k l0 a1 true) else (Z13.j0 k l0 a1 (decide (a1 > (l0.length:Int)))))=some (r1,r2,r3,r4,r5,r6,r7,r8,r9,cK):=h;clear h;have dB:=aM H;clear H;go_enter Tryd.func9,Tryd.ntmps9
 go_upto_region 1 with (((with_reducible refine gD (N:=4) rfl ?_);(try (refine gate_guard (by rfl) ?_;dsimp only));refine bE (N:=4) (cs:=#[.int .i64 0,.int .i64 0,.int .i64 0,.int .i64 0,.int .i64 0,.int .i64 0,.int .i64 0,.bool false]) (t:=27) ?_;intro bN hg w4 hbox hb;have aC:=aM (hbox);have fV:=gF hg HB;have fW:=gF hg HB;replace HB:=rS HB hb;clear hb hbox hg))
 go_cut [17] (fun fM wc=>∃ (kq:Nat) (cD:Bool),fM=.bool cD∧Aside0 (Z13.j0 kq l0 a1 cD=some (r1,r2,r3,r4,r5,r6,r7,r8,r9,cK))∧Aside0 (kq≤k)∧Aside0 (wc.heap[bN]?=some (.cells #[.int .i64 0,.int .i64 0,.int .i64 0,.int .i64 0,.int .i64 0,.int .i64 0,.int .i64 0,.bool false] 27 (0,0)))∧Aside0 (Below w.heap.size w wc))
 case first =>
  have H:=dB.out;clear dB
  by_cases c5:a1<0
  case pos =>
   rw [if_pos c5] at H
   have bU:=decide_eq_true c5;clear c5
   (skip)
   have H':=aM H;clear H;go_wp2
   go_meet
   case rel=>exact ⟨_,(true),xE,H',⟨by omega⟩,⟨bk aC.out⟩,⟨bl HB.out⟩⟩
  rw [if_neg c5] at H
  have bU:=decide_eq_false c5;clear c5
  (skip)
  have H':=aM H;clear H;go_wp2
  go_meet
  case rel=>exact ⟨_,(decide (a1 > (l0.length:Int))),xE,H',⟨by omega⟩,⟨bk aC.out⟩,⟨bl HB.out⟩⟩
 case rest =>
  clear dB
  repeat first|clear p2|clear c5|clear bU
  obtain ⟨kq,cD,rfl,HA,HJ2,aC,HB⟩:=hcut;cases kq with
  | zero=>exact absurd HA.out (by simp [Z13.j0])
  | succ bV =>
   have H:=HA.out;clear HA;simp only [Z13.j0] at H
   by_cases c6:cD=true
   case pos =>
    subst c6;replace H:=hP H rfl;simp only [Option.some.injEq,Prod.mk.injEq] at H;obtain ⟨rfl,rfl,rfl,rfl,rfl,rfl,rfl,rfl,rfl,rfl⟩:=H;have jH:=cA8 aC.out;go_wp2
    refine bodyPost_ret (results_ctt rfl _ _ bN 27 #[.int .i64 0,.int .i64 0,.int .i64 0,.int .i64 0,.int .i64 0,.int .i64 0,.int .i64 0,.bool false] (0,0) _ rfl (bm aC.out) Tryd.underlying27 rfl (by kernel_rfl)) rfl ?_
    exact ⟨xW,bl HB.out⟩
   replace c6:=Bool.eq_false_iff.mpr c6;subst c6;replace H:=hF H;obtain ⟨⟨aH,cE,cG⟩,dX,H⟩:=hB H
   try dsimp only at H
   have A8:=aM dX;clear dX;obtain ⟨⟨bA,bO,bP⟩,dY,H⟩:=hB H
   try dsimp only at H
   have A9:=aM dY;clear dY;have cO:=aM H;clear H;go_upto_block 0 with (first|((with_reducible refine gD (N:=7) rfl ?_);(try (refine gate_guard (by rfl) ?_;dsimp only));refine bE (N:=7) (cs:=#[.slice none 0 0,.int .i64 0,.bool false]) (t:=68) ?_;intro aJ hg fN hbox hb;have aK:=nM hg aC;have aD:=nH hg aC;have aA:=aM ((show IsS68 w fN aJ ([]:List Int) 0 false from ⟨_,_,hbox,(by rw [hg];exact (below_size (bl HB.out)):w.heap.size≤aJ),⟨Kd.C_nil _ _,Nat.le_refl _⟩⟩));replace aC:=rB aC hb;replace HB:=rS HB hb;clear hb hbox hg;obtain ⟨ASz12_0,cSz12_0,HGz12,hgz12,HSz12_0⟩:=aA.out;have eH:=cellS68_0 HGz12;have eI:=cellS68_1 HGz12;have eJ:=cellS68_2 HGz12;have eK:=bF HGz12 0;have eL:=bF HGz12 1;have eM:=bF HGz12 2;clear HGz12 hgz12)|((with_reducible refine gC (f:=52) rfl ?_);refine goesL_ (some 22) rfl rfl Tryd.func52 (by kernel_rfl) rfl #[.pointer (some ⟨aJ,0,none⟩)] rfl xR ?_;(with_reducible refine (Z41.calls bV aJ l0 a1 false aH cE cG w _ ?side1 ?side2 A8.out).mono ?_);(case side1=>repeat ((with_reducible first|exact aA.out|apply IsS68.set_1|apply IsS68.set_2|apply IsS68.put_0 (hx_:=⟨bI.out,bJ.out⟩))));(case side2=>exact IsS68.bl HB.out);rintro e jO ⟨rfl,hi,hb,hk⟩;refine ⟨_,rfl,?_⟩;replace aC:=aM (KeepBut.blk hk (fm aC.out) aK.out (by simp));replace HB:=aM (hb);replace aA:=aM (hi);(repeat first|clear hb|clear hk|clear hi))|((with_reducible refine gD (N:=8) rfl ?_);(try (refine gate_guard (by rfl) ?_;dsimp only));refine bE (N:=8) (cs:=#[.int .i64 0,.int .i64 0,.int .i64 0,.int .i64 0,.int .i64 0,.int .i64 0,.int .i64 0,.bool false]) (t:=27) ?_;intro bK hg jP hbox hb;have aE:=aM (hbox);have fX:=gE hg (below_size (IsS68.bl HB.out));have fY:=gE hg (below_size (IsS68.bl HB.out));have bG:=nM hg aC;have bH:=nH hg aC;have aG:=aM ((by rw [hg];exact Nat.ne_of_lt (IsS68.lt (show IsS68 w _ aJ l0 cE cG from by repeat ((with_reducible exact aA.out)))):aJ≠bK));have aI:=aM ((by rw [hg];exact Nat.ne_of_gt (IsS68.lt (show IsS68 w _ aJ l0 cE cG from by repeat ((with_reducible exact aA.out)))):bK≠aJ));replace aC:=rB aC hb;replace aA:=aM (IsS68.below (by repeat ((with_reducible exact aA.out))) hb);replace HB:=aM (bS (IsS68.bl HB.out) hb);clear hb hbox hg;have gA:=bH.out;have gB:=bG.out;have gG:=aI.out;have gH:=aG.out;have gJ:=cA8 aE.out)|((with_reducible refine gC (f:=52) rfl ?_);refine goesL_ (some 24) rfl rfl Tryd.func52 (by kernel_rfl) rfl #[.pointer (some ⟨aJ,0,none⟩)] rfl xR ?_;(with_reducible refine (Z41.calls bV aJ l0 cE cG bA bO bP w _ ?side1 ?side2 A9.out).mono ?_);(case side1=>repeat ((with_reducible first|exact aA.out|refine IsS68.far ?_ aG.out _)));(case side2=>exact IsS68.bl HB.out);rintro e jQ ⟨rfl,hi,hb,hk⟩;refine ⟨_,rfl,?_⟩;replace aC:=aM (KeepBut.blk hk (fm aC.out) aK.out (by simp));replace aE:=aM (KeepBut.blk hk (g':=bK) (o:=.cells #[aH,.int .i64 0,.int .i64 0,.int .i64 0,.int .i64 0,.int .i64 0,.int .i64 0,.bool false] 27 (0,0)) (bm aE.out) aI.out (by simp));replace HB:=aM (hb);replace aA:=aM (hi);(repeat first|clear hb|clear hk|clear hi);have gK:=cA8 aE.out))
   go_cut [] (fun wc=>∃ (kq:Nat) (bO:Int) (bP:Bool) (aN:Int) (aQ:Int) (aT:Int) (aV:Int) (aW:Int) (aX:Bool),Aside0 (Z13.j1 kq l0 a1 l0 bO bP aH bA aN aQ aT aV aW aX=some (r1,r2,r3,r4,r5,r6,r7,r8,r9,cK))∧Aside0 (kq≤bV)∧Aside0 (wc.heap[bN]?=some (.cells #[.int .i64 0,.int .i64 0,.int .i64 0,.int .i64 0,.int .i64 0,.int .i64 0,.int .i64 0,.bool false] 27 (0,0)))∧Aside0 (wc.heap[bK]?=some (.cells #[aH,bA,aN,aQ,aT,aV,aW,aX] 27 (0,0)))∧Aside0 (IsS68 w wc aJ l0 bO bP)∧Aside0 (Below w.heap.size w wc))
   case first =>
    have H:=cO.out;clear cO
    by_cases bZ:aH=1
    case neg =>
     rw [if_neg bZ] at H
     have bT:(aH == 1)=false:=beq_eq_false_iff_ne.mpr bZ;have cQ:(aH != 1)=true:=bne_iff_ne.mpr bZ
     (skip)
     by_cases cA:aH=3
     case neg =>
      rw [if_neg cA] at H
      have cR:(aH == 3)=false:=beq_eq_false_iff_ne.mpr cA;have cS:(aH != 3)=true:=bne_iff_ne.mpr cA;have H':=aM H;clear H;go_wp2
      go_meet
      case rel=>exact ⟨_,_,_,(0),(0),(0),(0),(0),(false),H',⟨by have:=HJ2.out;omega⟩,⟨fm aC.out⟩,⟨by (with_reducible repeat (first|refine blk_drewN ?_ _|refine blk_drew ?_|refine blk_alloc ?_ _));refine blk_put (cs:=#[aH,.int .i64 0,.int .i64 0,.int .i64 0,.int .i64 0,.int .i64 0,.int .i64 0,.bool false]) ?_ 1 _ rfl;(with_reducible repeat (first|refine blk_drewN ?_ _|refine blk_drew ?_|refine blk_alloc ?_ _));exact aE.out⟩,⟨by repeat ((with_reducible first|exact aA.out|refine IsS68.far ?_ aG.out _))⟩,⟨IsS68.bl HB.out⟩⟩
     rw [if_pos cA] at H
     have cR:(aH == 3)=true:=beq_iff_eq.mpr cA;have cS:(aH != 3)=false:=bne_eq_false_iff_eq.mpr cA;clear cA;obtain ⟨⟨dC,dZ,eA⟩,dD,H⟩:=hB H
     try dsimp only at H
     have fO:=aM dD;clear dD;have H':=aM H;clear H;go_wp2_with (((with_reducible refine gC (f:=52) rfl ?_);refine goesL_ (some 46) rfl rfl Tryd.func52 (by kernel_rfl) rfl #[.pointer (some ⟨aJ,0,none⟩)] rfl xR ?_;(with_reducible refine (Z41.calls bV aJ l0 bO bP dC dZ eA w _ ?side1 ?side2 fO.out).mono ?_);(case side1=>repeat ((with_reducible first|exact aA.out|refine IsS68.far ?_ aG.out _)));(case side2=>exact IsS68.bl HB.out);rintro e jR ⟨rfl,hi,hb,hk⟩;refine ⟨_,rfl,?_⟩;replace aC:=aM (KeepBut.blk hk (fm aC.out) aK.out (by simp));replace aE:=aM (KeepBut.blk hk (g':=bK) (o:=.cells #[aH,bA,.int .i64 0,.int .i64 0,.int .i64 0,.int .i64 0,.int .i64 0,.bool false] 27 (0,0)) (by (with_reducible repeat (first|refine blk_drewN ?_ _|refine blk_drew ?_|refine blk_alloc ?_ _));refine blk_put (cs:=#[aH,.int .i64 0,.int .i64 0,.int .i64 0,.int .i64 0,.int .i64 0,.int .i64 0,.bool false]) ?_ 1 _ rfl;(with_reducible repeat (first|refine blk_drewN ?_ _|refine blk_drew ?_|refine blk_alloc ?_ _));exact aE.out) aI.out (by simp));replace HB:=aM (hb);replace aA:=aM (hi);(repeat first|clear hb|clear hk|clear hi);have gM:=bH.out;have gO:=bG.out;have gP:=aI.out;have gQ:=aG.out;have gR:=cA8 aE.out))
     go_meet
     case rel=>exact ⟨_,_,_,(0),(0),(0),(0),(0),((dC == 1)),H',⟨by have:=HJ2.out;omega⟩,⟨fm aC.out⟩,⟨by (with_reducible repeat (first|refine blk_drewN ?_ _|refine blk_drew ?_|refine blk_alloc ?_ _));refine blk_put (cs:=#[aH,bA,.int .i64 0,.int .i64 0,.int .i64 0,.int .i64 0,.int .i64 0,.bool false]) ?_ 7 _ rfl;(with_reducible repeat (first|refine blk_drewN ?_ _|refine blk_drew ?_|refine blk_alloc ?_ _));exact aE.out⟩,⟨by repeat ((with_reducible first|exact aA.out|refine IsS68.far ?_ aG.out _))⟩,⟨IsS68.bl HB.out⟩⟩
    rw [if_pos bZ] at H
    have bT:(aH == 1)=true:=beq_iff_eq.mpr bZ;have cQ:(aH != 1)=false:=bne_eq_false_iff_eq.mpr bZ;clear bZ
    (skip)
    obtain ⟨⟨bM,dE,dF⟩,dG,H⟩:=hB H
    try dsimp only at H
    have fP:=aM dG;clear dG;obtain ⟨⟨bQ,dH,dI⟩,dJ,H⟩:=hB H
    try dsimp only at H
    have fQ:=aM dJ;clear dJ;obtain ⟨⟨bY,dK,dL⟩,dM,H⟩:=hB H
    try dsimp only at H
    have fS:=aM dM;clear dM;obtain ⟨⟨cH,dN,dO⟩,dP,H⟩:=hB H
    try dsimp only at H
    have fT:=aM dP;clear dP;obtain ⟨⟨dQ,eB,eC⟩,dR,H⟩:=hB H
    try dsimp only at H
    have fU:=aM dR;clear dR;have H':=aM H;clear H;go_wp2_with (first|((with_reducible refine gC (f:=52) rfl ?_);refine goesL_ (some 30) rfl rfl Tryd.func52 (by kernel_rfl) rfl #[.pointer (some ⟨aJ,0,none⟩)] rfl xR ?_;(with_reducible refine (Z41.calls bV aJ l0 bO bP bM dE dF w _ ?side1 ?side2 fP.out).mono ?_);(case side1=>repeat ((with_reducible first|exact aA.out|refine IsS68.far ?_ aG.out _)));(case side2=>exact IsS68.bl HB.out);rintro e jS ⟨rfl,hi,hb,hk⟩;refine ⟨_,rfl,?_⟩;replace aC:=aM (KeepBut.blk hk (fm aC.out) aK.out (by simp));replace aE:=aM (KeepBut.blk hk (g':=bK) (o:=.cells #[aH,bA,.int .i64 0,.int .i64 0,.int .i64 0,.int .i64 0,.int .i64 0,.bool false] 27 (0,0)) (by (with_reducible repeat (first|refine blk_drewN ?_ _|refine blk_drew ?_|refine blk_alloc ?_ _));refine blk_put (cs:=#[aH,.int .i64 0,.int .i64 0,.int .i64 0,.int .i64 0,.int .i64 0,.int .i64 0,.bool false]) ?_ 1 _ rfl;(with_reducible repeat (first|refine blk_drewN ?_ _|refine blk_drew ?_|refine blk_alloc ?_ _));exact aE.out) aI.out (by simp));replace HB:=aM (hb);replace aA:=aM (hi);(repeat first|clear hb|clear hk|clear hi);have gS:=bH.out;have gT:=bG.out;have gU:=aI.out;have gV:=aG.out;have gW:=cA8 aE.out)|((with_reducible refine gC (f:=52) rfl ?_);refine goesL_ (some 33) rfl rfl Tryd.func52 (by kernel_rfl) rfl #[.pointer (some ⟨aJ,0,none⟩)] rfl xR ?_;(with_reducible refine (Z41.calls bV aJ l0 dE dF bQ dH dI w _ ?side1 ?side2 fQ.out).mono ?_);(case side1=>repeat ((with_reducible first|exact aA.out|refine IsS68.far ?_ aG.out _)));(case side2=>exact IsS68.bl HB.out);rintro e jT ⟨rfl,hi,hb,hk⟩;refine ⟨_,rfl,?_⟩;replace aC:=aM (KeepBut.blk hk (fm aC.out) aK.out (by simp));replace aE:=aM (KeepBut.blk hk (g':=bK) (o:=.cells #[aH,bA,bM,.int .i64 0,.int .i64 0,.int .i64 0,.int .i64 0,.bool false] 27 (0,0)) (by (with_reducible repeat (first|refine blk_drewN ?_ _|refine blk_drew ?_|refine blk_alloc ?_ _));refine blk_put (cs:=#[aH,bA,.int .i64 0,.int .i64 0,.int .i64 0,.int .i64 0,.int .i64 0,.bool false]) ?_ 2 _ rfl;(with_reducible repeat (first|refine blk_drewN ?_ _|refine blk_drew ?_|refine blk_alloc ?_ _));exact aE.out) aI.out (by simp));replace HB:=aM (hb);replace aA:=aM (hi);(repeat first|clear hb|clear hk|clear hi);have gX:=cA8 aE.out)|((with_reducible refine gC (f:=52) rfl ?_);refine goesL_ (some 36) rfl rfl Tryd.func52 (by kernel_rfl) rfl #[.pointer (some ⟨aJ,0,none⟩)] rfl xR ?_;(with_reducible refine (Z41.calls bV aJ l0 dH dI bY dK dL w _ ?side1 ?side2 fS.out).mono ?_);(case side1=>repeat ((with_reducible first|exact aA.out|refine IsS68.far ?_ aG.out _)));(case side2=>exact IsS68.bl HB.out);rintro e jU ⟨rfl,hi,hb,hk⟩;refine ⟨_,rfl,?_⟩;replace aC:=aM (KeepBut.blk hk (fm aC.out) aK.out (by simp));replace aE:=aM (KeepBut.blk hk (g':=bK) (o:=.cells #[aH,bA,bM,bQ,.int .i64 0,.int .i64 0,.int .i64 0,.bool false] 27 (0,0)) (by (with_reducible repeat (first|refine blk_drewN ?_ _|refine blk_drew ?_|refine blk_alloc ?_ _));refine blk_put (cs:=#[aH,bA,bM,.int .i64 0,.int .i64 0,.int .i64 0,.int .i64 0,.bool false]) ?_ 3 _ rfl;(with_reducible repeat (first|refine blk_drewN ?_ _|refine blk_drew ?_|refine blk_alloc ?_ _));exact aE.out) aI.out (by simp));replace HB:=aM (hb);replace aA:=aM (hi);(repeat first|clear hb|clear hk|clear hi);have gY:=cA8 aE.out)|((with_reducible refine gC (f:=52) rfl ?_);refine goesL_ (some 39) rfl rfl Tryd.func52 (by kernel_rfl) rfl #[.pointer (some ⟨aJ,0,none⟩)] rfl xR ?_;(with_reducible refine (Z41.calls bV aJ l0 dK dL cH dN dO w _ ?side1 ?side2 fT.out).mono ?_);(case side1=>repeat ((with_reducible first|exact aA.out|refine IsS68.far ?_ aG.out _)));(case side2=>exact IsS68.bl HB.out);rintro e jV ⟨rfl,hi,hb,hk⟩;refine ⟨_,rfl,?_⟩;replace aC:=aM (KeepBut.blk hk (fm aC.out) aK.out (by simp));replace aE:=aM (KeepBut.blk hk (g':=bK) (o:=.cells #[aH,bA,bM,bQ,bY,.int .i64 0,.int .i64 0,.bool false] 27 (0,0)) (by (with_reducible repeat (first|refine blk_drewN ?_ _|refine blk_drew ?_|refine blk_alloc ?_ _));refine blk_put (cs:=#[aH,bA,bM,bQ,.int .i64 0,.int .i64 0,.int .i64 0,.bool false]) ?_ 4 _ rfl;(with_reducible repeat (first|refine blk_drewN ?_ _|refine blk_drew ?_|refine blk_alloc ?_ _));exact aE.out) aI.out (by simp));replace HB:=aM (hb);replace aA:=aM (hi);(repeat first|clear hb|clear hk|clear hi);have gZ:=cA8 aE.out)|((with_reducible refine gC (f:=52) rfl ?_);refine goesL_ (some 42) rfl rfl Tryd.func52 (by kernel_rfl) rfl #[.pointer (some ⟨aJ,0,none⟩)] rfl xR ?_;(with_reducible refine (Z41.calls bV aJ l0 dN dO dQ eB eC w _ ?side1 ?side2 fU.out).mono ?_);(case side1=>repeat ((with_reducible first|exact aA.out|refine IsS68.far ?_ aG.out _)));(case side2=>exact IsS68.bl HB.out);rintro e jW ⟨rfl,hi,hb,hk⟩;refine ⟨_,rfl,?_⟩;replace aC:=aM (KeepBut.blk hk (fm aC.out) aK.out (by simp));replace aE:=aM (KeepBut.blk hk (g':=bK) (o:=.cells #[aH,bA,bM,bQ,bY,cH,.int .i64 0,.bool false] 27 (0,0)) (by (with_reducible repeat (first|refine blk_drewN ?_ _|refine blk_drew ?_|refine blk_alloc ?_ _));refine blk_put (cs:=#[aH,bA,bM,bQ,bY,.int .i64 0,.int .i64 0,.bool false]) ?_ 5 _ rfl;(with_reducible repeat (first|refine blk_drewN ?_ _|refine blk_drew ?_|refine blk_alloc ?_ _));exact aE.out) aI.out (by simp));replace HB:=aM (hb);replace aA:=aM (hi);(repeat first|clear hb|clear hk|clear hi);have hD:=cA8 aE.out))
    go_meet
    case rel=>exact ⟨_,_,_,(bM),(bQ),(bY),(cH),(dQ),(false),H',⟨by have:=HJ2.out;omega⟩,⟨fm aC.out⟩,⟨by (with_reducible repeat (first|refine blk_drewN ?_ _|refine blk_drew ?_|refine blk_alloc ?_ _));refine blk_put (cs:=#[aH,bA,bM,bQ,bY,cH,.int .i64 0,.bool false]) ?_ 6 _ rfl;(with_reducible repeat (first|refine blk_drewN ?_ _|refine blk_drew ?_|refine blk_alloc ?_ _));exact aE.out⟩,⟨by repeat ((with_reducible first|exact aA.out|refine IsS68.far ?_ aG.out _))⟩,⟨IsS68.bl HB.out⟩⟩
   case rest =>
    clear cO
    repeat first|clear c1|clear c2|clear p2|clear c3|clear c4|clear c5|clear bU|clear c6|clear c9|clear jX|clear jY|clear bZ|clear bT|clear cQ|clear jZ|clear kA|clear cA|clear cR|clear cS|clear kC|clear kD|clear p2
    obtain ⟨kq,bO,bP,aN,aQ,aT,aV,aW,aX,HA,HJ9,aC,aE,aA,HB⟩:=hcut;cases kq with
    | zero=>exact absurd HA.out (by simp [Z13.j1])
    | succ cT =>
     have H:=HA.out;clear HA;simp only [Z13.j1] at H;obtain ⟨bL,dS,H⟩:=hB H;have cU:=aM dS;clear dS
     by_cases cV:bP=true
     case pos =>
      subst cV;replace H:=hP H rfl;simp only [Option.some.injEq,Prod.mk.injEq] at H;obtain ⟨rfl,rfl,rfl,rfl,rfl,rfl,rfl,rfl,rfl,rfl⟩:=H;have hH:=bH.out;have hJ:=bG.out;have hO:=aI.out;have hU:=aG.out;have hX:=cA8 aE.out;go_wp2_with (((with_reducible refine gC (f:=7) rfl ?_);refine goesL_ (some 50) rfl rfl Tryd.func7 (by kernel_rfl) rfl #[.agg #[aH,bA,aN,aQ,aT,aV,aW,aX]] rfl xR ?_;(with_reducible refine (Z38.calls cT aH bA aN aQ aT aV aW aX bL _ cU.out).mono ?_);rintro e kE ⟨cP,rfl,ho0,hb⟩;refine ⟨_,rfl,?_⟩;have bD:=aM (Kd.R_lower ho0 (below_size (IsS68.bl HB.out)));replace aC:=rB aC hb;replace aE:=rB aE hb;replace aA:=aM (IsS68.below (by repeat ((with_reducible exact aA.out))) hb);replace HB:=aM (bS (IsS68.bl HB.out) hb);(repeat first|clear hb|clear ho0);obtain ⟨ASz50_0,cSz50_0,HGz50,hgz50,HSz50_0⟩:=aA.out;have eN:=cellS68_0 HGz50;have eO:=cellS68_1 HGz50;have eP:=cellS68_2 HGz50;have eQ:=bF HGz50 0;have eR:=bF HGz50 1;have eS:=bF HGz50 2;clear HGz50 hgz50;have hY:=aK.out;have hZ:=aD.out;have iA:=cA8 aC.out))
      refine bodyPost_ret (results_ctt rfl _ _ bN 27 #[.int .i64 0,.int .i64 0,.int .i64 0,.int .i64 0,.int .i64 0,.int .i64 0,.int .i64 0,.bool false] (0,0) _ rfl (bm aC.out) Tryd.underlying27 rfl (by kernel_rfl)) rfl ?_
      exact ⟨xW,IsS68.bl HB.out⟩
     replace cV:=Bool.eq_false_iff.mpr cV;subst cV;replace H:=hF H
     by_cases cC:(bL.length:Int)=0
     case pos =>
      rw [if_pos cC] at H
      have dV:((bL.length:Int) == 0)=true:=beq_iff_eq.mpr cC;have dW:((bL.length:Int) != 0)=false:=bne_eq_false_iff_eq.mpr cC;clear cC;simp only [Option.some.injEq,Prod.mk.injEq] at H;obtain ⟨rfl,rfl,rfl,rfl,rfl,rfl,rfl,rfl,rfl,rfl⟩:=H;have iB:=bH.out;have iC:=bG.out;have iD:=aI.out;have iE:=aG.out;have iF:=cA8 aE.out;go_wp2_with (((with_reducible refine gC (f:=7) rfl ?_);refine goesL_ (some 50) rfl rfl Tryd.func7 (by kernel_rfl) rfl #[.agg #[aH,bA,aN,aQ,aT,aV,aW,aX]] rfl xR ?_;(with_reducible refine (Z38.calls cT aH bA aN aQ aT aV aW aX bL _ cU.out).mono ?_);rintro e kG ⟨cP,rfl,ho0,hb⟩;refine ⟨_,rfl,?_⟩;have bD:=aM (Kd.R_lower ho0 (below_size (IsS68.bl HB.out)));replace aC:=rB aC hb;replace aE:=rB aE hb;replace aA:=aM (IsS68.below (by repeat ((with_reducible exact aA.out))) hb);replace HB:=aM (bS (IsS68.bl HB.out) hb);(repeat first|clear hb|clear ho0);obtain ⟨ASz58_0,cSz58_0,HGz58,hgz58,HSz58_0⟩:=aA.out;have eT:=cellS68_0 HGz58;have eU:=cellS68_1 HGz58;have eV:=cellS68_2 HGz58;have eW:=bF HGz58 0;have eX:=bF HGz58 1;have eY:=bF HGz58 2;clear HGz58 hgz58;obtain ⟨jI,jJ,eD⟩:=Kd.R_slice bD.out;subst eD;have iG:=aK.out;have iH:=aD.out;have iI:=cA8 aC.out))
      refine bodyPost_ret (results_ctt rfl _ _ bN 27 #[.int .i64 0,.int .i64 0,.int .i64 0,.int .i64 0,.int .i64 0,.int .i64 0,.int .i64 0,.bool false] (0,0) _ rfl (bm aC.out) Tryd.underlying27 rfl (by kernel_rfl)) rfl ?_
      exact ⟨xW,IsS68.bl HB.out⟩
     rw [if_neg cC] at H
     have dV:((bL.length:Int) == 0)=false:=beq_eq_false_iff_ne.mpr cC;have dW:((bL.length:Int) != 0)=true:=bne_iff_ne.mpr cC;have iJ:¬ (bL=[]):=fun h_=>cC (by rw [h_];rfl)
     by_cases cL:0≤a1
     case neg =>
      rw [if_neg cL] at H
      exact absurd H (by simp)
     rw [if_pos cL] at H
     have iK:=eq_true cL;have iL:decide (0≤a1)=true:=decide_eq_true cL;clear cL
     by_cases cN:a1≤(l0.length:Int)
     case neg =>
      rw [if_neg cN] at H
      exact absurd H (by simp)
     rw [if_pos cN] at H
     have iM:=eq_true cN;have iN:decide (a1≤(l0.length:Int))=true:=decide_eq_true cN;clear cN;obtain ⟨eE,dU,H⟩:=hB H;have cW:=aM dU;clear dU
     by_cases cX:eE=true
     case pos =>
      subst cX;replace H:=hP H rfl;simp only [Option.some.injEq,Prod.mk.injEq] at H;obtain ⟨rfl,rfl,rfl,rfl,rfl,rfl,rfl,rfl,rfl,rfl⟩:=H;have iO:=bH.out;have iP:=bG.out;have iQ:=aI.out;have iR:=aG.out;have iS:=cA8 aE.out;go_wp2_with (first|((with_reducible refine gC (f:=7) rfl ?_);refine goesL_ (some 50) rfl rfl Tryd.func7 (by kernel_rfl) rfl #[.agg #[aH,bA,aN,aQ,aT,aV,aW,aX]] rfl xR ?_;(with_reducible refine (Z38.calls cT aH bA aN aQ aT aV aW aX bL _ cU.out).mono ?_);rintro e cY ⟨cP,rfl,ho0,hb⟩;refine ⟨_,rfl,?_⟩;have bD:=aM (Kd.R_lower ho0 (below_size (IsS68.bl HB.out)));replace aC:=rB aC hb;replace aE:=rB aE hb;replace aA:=aM (IsS68.below (by repeat ((with_reducible exact aA.out))) hb);replace HB:=aM (bS (IsS68.bl HB.out) hb);(repeat first|clear hb|clear ho0);obtain ⟨ASz70_0,cSz70_0,HGz70,hgz70,HSz70_0⟩:=aA.out;have eZ:=cellS68_0 HGz70;have fA:=cellS68_1 HGz70;have fB:=cellS68_2 HGz70;have fC:=bF HGz70 0;have fD:=bF HGz70 1;have fE:=bF HGz70 2;clear HGz70 hgz70;obtain ⟨jK,jL,eF⟩:=Kd.R_slice bD.out;subst eF;obtain ⟨i072,hi072,_,hsz72,_⟩:=info_parts info5;obtain ⟨kH,hcut72,hA72,hC72⟩:=print_drop_of (P:=Tryd.prog) (Value.int .u8) 0 22 5 .i64 Tryd.underlying22 hi072 hsz72 A0 c0 l0 a1 (dT) (dT) bJ.out;have bW:=aM (Kd.C_of_reads (h1:=fun _=>rfl) (hA72 _ (Kd.reads_of_C bI.out)));have bX:=aM hC72;clear hA72 hC72 hi072 hsz72;obtain ⟨tk72,hTK72⟩:∃ t_,t_=(l0.drop (a1:Int).toNat):=⟨_,rfl⟩;rw [← hTK72] at hcut72;rw [← hTK72] at bW;rw [← hTK72] at bX;rw [← hTK72] at cW;clear hTK72)|(go_at_call 53;(with_reducible refine (Z80.calls _ _ tk72 _ _ bL true _ ?side1 ?side2 ?side3 ?side4 cW.out).mono ?_);(case side1=>exact cM (cB bW.out HB.out));(case side2=>exact bX.out);(case side3=>exact cM ((Kd.R_reads' bD.out).2.2));(case side4=>exact (Kd.R_reads' bD.out).2.1);rintro e w' ⟨rfl,⟨nd,rfl⟩⟩;(try (rw [drewN_self cY];generalize hq_:World.drewN cY _=cY;replace bD:=qR hq_ (kr bD.out);replace aC:=qB hq_ (bk aC.out);replace aE:=qB hq_ (bk aE.out);replace aA:Aside0 (IsS68 w cY aJ l0 bO false):=⟨by rw [← hq_];exact (by repeat ((with_reducible first|exact aA.out|apply IsS68.drewN)))⟩;replace HB:=qL hq_ (IsS68.bl HB.out);clear hq_));have iT:=cA8 aE.out;have iU:=aK.out;have iV:=aD.out;have iW:=cA8 aC.out))
      refine bodyPost_ret (results_ctt rfl _ _ bN 27 #[aH,bA,aN,aQ,aT,aV,aW,aX] (0,0) _ rfl (bm aC.out) Tryd.underlying27 rfl (by kernel_rfl)) rfl ?_
      exact ⟨xW,IsS68.bl HB.out⟩
     replace cX:=Bool.eq_false_iff.mpr cX;subst cX;replace H:=hF H;simp only [Option.some.injEq,Prod.mk.injEq] at H;obtain ⟨rfl,rfl,rfl,rfl,rfl,rfl,rfl,rfl,rfl,rfl⟩:=H;have iX:=bH.out;have iY:=bG.out;have iZ:=aI.out;have jA:=aG.out;have jB:=cA8 aE.out;go_wp2_with (first|((with_reducible refine gC (f:=7) rfl ?_);refine goesL_ (some 50) rfl rfl Tryd.func7 (by kernel_rfl) rfl #[.agg #[aH,bA,aN,aQ,aT,aV,aW,aX]] rfl xR ?_;(with_reducible refine (Z38.calls cT aH bA aN aQ aT aV aW aX bL _ cU.out).mono ?_);rintro e dA ⟨cP,rfl,ho0,hb⟩;refine ⟨_,rfl,?_⟩;have bD:=aM (Kd.R_lower ho0 (below_size (IsS68.bl HB.out)));replace aC:=rB aC hb;replace aE:=rB aE hb;replace aA:=aM (IsS68.below (by repeat ((with_reducible exact aA.out))) hb);replace HB:=aM (bS (IsS68.bl HB.out) hb);(repeat first|clear hb|clear ho0);obtain ⟨ASz80_0,cSz80_0,HGz80,hgz80,HSz80_0⟩:=aA.out;have fF:=cellS68_0 HGz80;have fG:=cellS68_1 HGz80;have fH:=cellS68_2 HGz80;have fI:=bF HGz80 0;have fK:=bF HGz80 1;have fL:=bF HGz80 2;clear HGz80 hgz80;obtain ⟨jM,jN,eG⟩:=Kd.R_slice bD.out;subst eG;obtain ⟨i082,hi082,_,hsz82,_⟩:=info_parts info5;obtain ⟨kI,hcut82,hA82,hC82⟩:=print_drop_of (P:=Tryd.prog) (Value.int .u8) 0 22 5 .i64 Tryd.underlying22 hi082 hsz82 A0 c0 l0 a1 (dT) (dT) bJ.out;have bW:=aM (Kd.C_of_reads (h1:=fun _=>rfl) (hA82 _ (Kd.reads_of_C bI.out)));have bX:=aM hC82;clear hA82 hC82 hi082 hsz82;obtain ⟨tk82,hTK82⟩:∃ t_,t_=(l0.drop (a1:Int).toNat):=⟨_,rfl⟩;rw [← hTK82] at hcut82;rw [← hTK82] at bW;rw [← hTK82] at bX;rw [← hTK82] at cW;clear hTK82)|(go_at_call 53;(with_reducible refine (Z80.calls _ _ tk82 _ _ bL false _ ?side1 ?side2 ?side3 ?side4 cW.out).mono ?_);(case side1=>exact cM (cB bW.out HB.out));(case side2=>exact bX.out);(case side3=>exact cM ((Kd.R_reads' bD.out).2.2));(case side4=>exact (Kd.R_reads' bD.out).2.1);rintro e w' ⟨rfl,⟨nd,rfl⟩⟩;(try (rw [drewN_self dA];generalize hq_:World.drewN dA _=dA;replace bD:=qR hq_ (kr bD.out);replace aC:=qB hq_ (bk aC.out);replace aE:=qB hq_ (bk aE.out);replace aA:Aside0 (IsS68 w dA aJ l0 bO false):=⟨by rw [← hq_];exact (by repeat ((with_reducible first|exact aA.out|apply IsS68.drewN)))⟩;replace HB:=qL hq_ (IsS68.bl HB.out);clear hq_));have jC:=aK.out;have jD:=aD.out;have jE:=cA8 aC.out))
     refine bodyPost_ret (results_ctt rfl _ _ bN 27 #[.int .i64 0,.int .i64 0,.int .i64 0,.int .i64 0,.int .i64 0,.int .i64 0,.int .i64 0,.bool false] (0,0) _ rfl (bm aC.out) Tryd.underlying27 rfl (by kernel_rfl)) rfl ?_
     exact ⟨xW,IsS68.bl HB.out⟩

mutual
def Z14.l0:Nat→List Int→Int→Int→Int→Option (Int × Int × Bool)
 | 0,_,_,_,_=>none
 | k+1,x0,x1,x7,x8=>if x8<5 then (if x1<0 then (Z14.j1 k x0 x1 x7 x8 true) else (Z14.j1 k x0 x1 x7 x8 (decide (x1 ≥ (wrap64 ((x0.length:Int) - x8)))))) else (some (0,0,false))
def Z14.j1:Nat→List Int→Int→Int→Int→Bool→Option (Int × Int × Bool)
 | 0,_,_,_,_,_=>none
 | k+1,x0,x1,x7,x8,aA=>if aA=true then (some (0,0,false)) else (if 0≤(wrap64 (x1+x8)) then (if (wrap64 (x1+x8))<(x0.length:Int) then (if 0≤(wrap64 (7*x8)) then (if (wrap64 (rd x0 (wrap64 (x1+x8))))<128 then (if x8 > 0 then (if (wrap64 (rd x0 (wrap64 (x1+x8))))=0 then (some (0,0,false)) else (if (Go.bits .or .i64 x7 (shl .i64 (Int.tmod (wrap64 (rd x0 (wrap64 (x1+x8)))) 128) (wrap64 (7*x8)))) > 2147483647 then (some (0,0,false)) else (some (Go.bits .or .i64 x7 (shl .i64 (Int.tmod (wrap64 (rd x0 (wrap64 (x1+x8)))) 128) (wrap64 (7*x8))),wrap64 ((wrap64 (x1+x8))+1),true)))) else (if (Go.bits .or .i64 x7 (shl .i64 (Int.tmod (wrap64 (rd x0 (wrap64 (x1+x8)))) 128) (wrap64 (7*x8)))) > 2147483647 then (some (0,0,false)) else (some (Go.bits .or .i64 x7 (shl .i64 (Int.tmod (wrap64 (rd x0 (wrap64 (x1+x8)))) 128) (wrap64 (7*x8))),wrap64 ((wrap64 (x1+x8))+1),true)))) else (Z14.l0 k x0 x1 (Go.bits .or .i64 x7 (shl .i64 (Int.tmod (wrap64 (rd x0 (wrap64 (x1+x8)))) 128) (wrap64 (7*x8)))) (wrap64 (x8+1)))) else (none)) else (none)) else (none))
end
def Z14.f (k:Nat) (l0:List Int) (a1:Int):Option (Int × Int × Bool):=Z14.l0 k l0 a1 0 0
theorem Z14.mono_l:∀ k,(∀ y0 y1 y2 y3,LeO (Z14.l0 k y0 y1 y2 y3) (Z14.l0 (k+1) y0 y1 y2 y3))∧(∀ y0 y1 y2 y3 y4,LeO (Z14.j1 k y0 y1 y2 y3 y4) (Z14.j1 (k+1) y0 y1 y2 y3 y4))
 | 0=>by refine ⟨?_,?_⟩ <;> intros <;> intro r h <;> simp [Z14.l0,Z14.j1] at h
 | k+1=>by
  obtain ⟨ih0,ih1⟩:=Z14.mono_l k;refine ⟨?_,?_⟩
  ·intro y0 y1 y2 y3
   unfold Z14.l0
   repeat' (with_reducible first|apply ih1|exact lR _|refine lI ?_ ?_)
  ·intro y0 y1 y2 y3 y4
   unfold Z14.j1
   repeat' (with_reducible first|apply ih0|exact lR _|refine lI ?_ ?_)
theorem Z14.mono:∀ a0 a1 k,LeO (Z14.f k a0 a1) (Z14.f (k+1) a0 a1):=by
 intro a0 a1 k;obtain ⟨ih0,ih1⟩:=Z14.mono_l k;unfold Z14.f
 repeat' (with_reducible apply ih0)
set_option maxHeartbeats 60000000 in
set_option maxRecDepth 100000 in
theorem Z14.calls (k:Nat) (A0:Option Addr) (c0:Nat) (l0:List Int) (a1 r1 r2:Int) (r3:Bool) (w:World) (hr0:Kd.C (Kd.int .u8) w A0 l0.length l0) (hc0:l0.length≤c0) (h:Z14.f k l0 a1=some (r1,r2,r3)) :
  Calls Tryd.prog 40 #[.slice A0 l0.length c0,a1] w fun e w'=>e=.returned (.tuple #[r1,r2,r3])∧Drawn0 w w':=by
 have aQ:=aM hr0;have bW:=aM hc0;clear hr0 hc0;have H:(Z14.l0 k l0 a1 0 0)=some (r1,r2,r3):=h;clear h;have H':=aM H;clear H;go_enter Tryd.func40,Tryd.ntmps40
 go_wp2
 go_loopg [7,8] k (fun kq v7 v8 w'=>∃ (aE:Int) (aA:Int),v7=.int .i64 aE∧v8=.int .i64 aA∧Aside0 (Z14.l0 kq l0 a1 aE aA=some (r1,r2,r3))∧Aside0 (kq≤k)∧Drawn0 w w')
 case atStart=>exact ⟨(0),(0),xE,xE,H',⟨Nat.le_refl _⟩,by repeat (exact Drawn0.refl _)⟩
 case round =>
  clear H'
  obtain ⟨aE,aA,rfl,rfl,HA,bD,⟨m1,rfl⟩⟩:=hrel;cases gk with
  | zero=>exact absurd HA.out (by simp [Z14.l0])
  | succ k1 =>
   have H:=HA.out;clear HA;simp only [Z14.l0] at H
   by_cases c3:aA<5
   case neg =>
    rw [if_neg c3] at H
    have bH:=decide_eq_false c3;clear c3;simp only [Option.some.injEq,Prod.mk.injEq] at H;obtain ⟨rfl,rfl,rfl⟩:=H;go_wp2
    go_ret3
    exact ⟨by rfl,by repeat (first|exact Drawn0.refl _|apply Drawn0.step)⟩
   rw [if_pos c3] at H
   have bH:=decide_eq_true c3;clear c3;have bI:=aM H;clear H;go_upto_region 5 with (fail)
   go_cut [23] (fun bP wc=>∃ (kq:Nat) (aK:Bool),bP=.bool aK∧Aside0 (Z14.j1 kq l0 a1 aE aA aK=some (r1,r2,r3))∧Aside0 (kq≤k1)∧Drawn0 w wc)
   case first =>
    have H:=bI.out;clear bI
    by_cases c5:a1<0
    case pos =>
     rw [if_pos c5] at H
     have aJ:=decide_eq_true c5;clear c5
     (skip)
     have H':=aM H;clear H;go_wp2
     go_meet
     case rel=>exact ⟨_,(true),xE,H',⟨by have:=bD.out;omega⟩,by repeat (first|exact Drawn0.refl _|apply Drawn0.step)⟩
    rw [if_neg c5] at H
    have aJ:=decide_eq_false c5;clear c5
    (skip)
    have H':=aM H;clear H;go_wp2
    go_meet
    case rel=>exact ⟨_,(decide (a1 ≥ (wrap64 ((l0.length:Int) - aA)))),xE,H',⟨by have:=bD.out;omega⟩,by repeat (first|exact Drawn0.refl _|apply Drawn0.step)⟩
   case rest =>
    clear bI
    repeat clear bH
    obtain ⟨kq,aK,rfl,HA,HJ3,⟨mc3,rfl⟩⟩:=hcut;cases kq with
    | zero=>exact absurd HA.out (by simp [Z14.j1])
    | succ bG =>
     have H:=HA.out;clear HA;simp only [Z14.j1] at H
     by_cases c6:aK=true
     case pos =>
      subst c6;replace H:=hP H rfl;simp only [Option.some.injEq,Prod.mk.injEq] at H;obtain ⟨rfl,rfl,rfl⟩:=H;go_wp2
      go_ret3
      exact ⟨by rfl,by repeat (first|exact Drawn0.refl _|apply Drawn0.step)⟩
     replace c6:=Bool.eq_false_iff.mpr c6;subst c6;replace H:=hF H;obtain ⟨ji7,hji7⟩:∃ j_:Int,(wrap64 (a1+aA))=j_:=⟨_,rfl⟩;replace H:(if 0≤(ji7) then (if (ji7)<(l0.length:Int) then (if 0≤(wrap64 (7*aA)) then (if (wrap64 (rd l0 (ji7)))<128 then (if aA > 0 then (if (wrap64 (rd l0 (ji7)))=0 then (some (0,0,false)) else (if (Go.bits .or .i64 aE (shl .i64 (Int.tmod (wrap64 (rd l0 (ji7))) 128) (wrap64 (7*aA)))) > 2147483647 then (some (0,0,false)) else (some (Go.bits .or .i64 aE (shl .i64 (Int.tmod (wrap64 (rd l0 (ji7))) 128) (wrap64 (7*aA))),wS (ji7),true)))) else (if (Go.bits .or .i64 aE (shl .i64 (Int.tmod (wrap64 (rd l0 (ji7))) 128) (wrap64 (7*aA)))) > 2147483647 then (some (0,0,false)) else (some (Go.bits .or .i64 aE (shl .i64 (Int.tmod (wrap64 (rd l0 (ji7))) 128) (wrap64 (7*aA))),wS (ji7),true)))) else (Z14.l0 bG l0 a1 (Go.bits .or .i64 aE (shl .i64 (Int.tmod (wrap64 (rd l0 (ji7))) 128) (wrap64 (7*aA)))) (wS aA))) else (none)) else (none)) else (none))=some (r1,r2,r3):=by (rw [hji7] at H;exact H)
     have hji7w:(IntKind.i64.wrap (a1+aA))=ji7:=(i64_w _).trans hji7;obtain ⟨bU,H⟩:=gI H;obtain ⟨bV,H⟩:=gI H;obtain ⟨ji10,hji10⟩:∃ j_:Int,(wrap64 (7*aA))=j_:=⟨_,rfl⟩;replace H:(if 0≤(ji10) then (if (wrap64 (rd l0 (ji7)))<128 then (if aA > 0 then (if (wrap64 (rd l0 (ji7)))=0 then (some (0,0,false)) else (if (Go.bits .or .i64 aE (shl .i64 (Int.tmod (wrap64 (rd l0 (ji7))) 128) (ji10))) > 2147483647 then (some (0,0,false)) else (some (Go.bits .or .i64 aE (shl .i64 (Int.tmod (wrap64 (rd l0 (ji7))) 128) (ji10)),wS (ji7),true)))) else (if (Go.bits .or .i64 aE (shl .i64 (Int.tmod (wrap64 (rd l0 (ji7))) 128) (ji10))) > 2147483647 then (some (0,0,false)) else (some (Go.bits .or .i64 aE (shl .i64 (Int.tmod (wrap64 (rd l0 (ji7))) 128) (ji10)),wS (ji7),true)))) else (Z14.l0 bG l0 a1 (Go.bits .or .i64 aE (shl .i64 (Int.tmod (wrap64 (rd l0 (ji7))) 128) (ji10))) (wS aA))) else (none))=some (r1,r2,r3):=by (rw [hji10] at H;exact H)
     have hji10w:(IntKind.i64.wrap (7*aA))=ji10:=(i64_w _).trans hji10
     by_cases bA:0≤(ji10)
     case neg =>
      rw [if_neg bA] at H
      exact absurd H (by simp)
     rw [if_pos bA] at H
     have bQ:=eq_true bA;have bT:decide (0≤(ji10))=true:=decide_eq_true bA;clear bA;obtain ⟨ji12,hji12⟩:∃ j_:Int,(shl .i64 (Int.tmod (wrap64 (rd l0 (ji7))) 128) (ji10))=j_:=⟨_,rfl⟩;replace H:(if (wrap64 (rd l0 (ji7)))<128 then (if aA > 0 then (if (wrap64 (rd l0 (ji7)))=0 then (some (0,0,false)) else (if (Go.bits .or .i64 aE (ji12)) > 2147483647 then (some (0,0,false)) else (some (Go.bits .or .i64 aE (ji12),wS (ji7),true)))) else (if (Go.bits .or .i64 aE (ji12)) > 2147483647 then (some (0,0,false)) else (some (Go.bits .or .i64 aE (ji12),wS (ji7),true)))) else (Z14.l0 bG l0 a1 (Go.bits .or .i64 aE (ji12)) (wS aA)))=some (r1,r2,r3):=by (rw [hji12] at H;exact H)
     have hji12_:(IntKind.i64.wrap ((Int.tmod (wrap64 (rd l0 (ji7))) 128)*2 ^ min (ji10).toNat 64))=ji12:=hji12;have hji12z:(ji10)≤64→(IntKind.i64.wrap ((Int.tmod (wrap64 (rd l0 (ji7))) 128)*2 ^ (ji10).toNat))=ji12:=shl_small hji12;have hji12y:(wrap64 ((Int.tmod (wrap64 (rd l0 (ji7))) 128)*2 ^ min (ji10).toNat 64))=ji12:=(i64_w _).symm.trans hji12_;have hji12x:(ji10)≤64→(wrap64 ((Int.tmod (wrap64 (rd l0 (ji7))) 128)*2 ^ (ji10).toNat))=ji12:=fun h_=>(i64_w _).symm.trans (hji12z h_)
     by_cases aT:(wrap64 (rd l0 (ji7)))<128
     case neg =>
      rw [if_neg aT] at H
      have bJ:=decide_eq_false aT;clear aT;have H':=aM H;clear H;have aC:0≤((ji7):Int):=dT;have aD:(ji7)<(l0.length:Int):=dT;obtain ⟨aI,aG,aH⟩:=Kd.at_int aQ.out (ji7) aC aD;cases aG
      replace aC:=eq_true aC;replace aD:=eq_true aD;go_wp2
      go_roundg bG
      case measure=>have:=bD.out;have:=HJ3.out;omega
      case rel=>exact ⟨(Go.bits .or .i64 aE (ji12)),(wS aA),(by rfl),xE,H',⟨by have:=bD.out;have:=HJ3.out;omega⟩,by repeat (first|exact Drawn0.refl _|apply Drawn0.step)⟩
     rw [if_pos aT] at H
     have bJ:=decide_eq_true aT;clear aT
     by_cases aV:aA > 0
     case neg =>
      rw [if_neg aV] at H
      have bK:=decide_eq_false aV;clear aV
      by_cases aW:(Go.bits .or .i64 aE (ji12)) > 2147483647
      case pos =>
       rw [if_pos aW] at H
       have bL:=decide_eq_true aW;clear aW;simp only [Option.some.injEq,Prod.mk.injEq] at H;obtain ⟨rfl,rfl,rfl⟩:=H;have aC:0≤((ji7):Int):=dT;have aD:(ji7)<(l0.length:Int):=dT;obtain ⟨aI,aG,aH⟩:=Kd.at_int aQ.out (ji7) aC aD;cases aG
       replace aC:=eq_true aC;replace aD:=eq_true aD;go_wp2
       go_ret3
       exact ⟨by rfl,by repeat (first|exact Drawn0.refl _|apply Drawn0.step)⟩
      rw [if_neg aW] at H
      have bL:=decide_eq_false aW;clear aW;simp only [Option.some.injEq,Prod.mk.injEq] at H;obtain ⟨rfl,rfl,rfl⟩:=H;have aC:0≤((ji7):Int):=dT;have aD:(ji7)<(l0.length:Int):=dT;obtain ⟨aI,aG,aH⟩:=Kd.at_int aQ.out (ji7) aC aD;cases aG
      replace aC:=eq_true aC;replace aD:=eq_true aD;go_wp2
      go_ret3
      exact ⟨by rfl,by repeat (first|exact Drawn0.refl _|apply Drawn0.step)⟩
     rw [if_pos aV] at H
     have bK:=decide_eq_true aV;clear aV
     by_cases aN:(wrap64 (rd l0 (ji7)))=0
     case pos =>
      rw [if_pos aN] at H
      have bM:((wrap64 (rd l0 (ji7))) == 0)=true:=beq_iff_eq.mpr aN;have bN:((wrap64 (rd l0 (ji7))) != 0)=false:=bne_eq_false_iff_eq.mpr aN;clear aN;simp only [Option.some.injEq,Prod.mk.injEq] at H;obtain ⟨rfl,rfl,rfl⟩:=H;have aC:0≤((ji7):Int):=dT;have aD:(ji7)<(l0.length:Int):=dT;obtain ⟨aI,aG,aH⟩:=Kd.at_int aQ.out (ji7) aC aD;cases aG
      replace aC:=eq_true aC;replace aD:=eq_true aD;go_wp2
      go_ret3
      exact ⟨by rfl,by repeat (first|exact Drawn0.refl _|apply Drawn0.step)⟩
     rw [if_neg aN] at H
     have bM:((wrap64 (rd l0 (ji7))) == 0)=false:=beq_eq_false_iff_ne.mpr aN;have bN:((wrap64 (rd l0 (ji7))) != 0)=true:=bne_iff_ne.mpr aN
     by_cases aX:(Go.bits .or .i64 aE (ji12)) > 2147483647
     case pos =>
      rw [if_pos aX] at H
      have bO:=decide_eq_true aX;clear aX;simp only [Option.some.injEq,Prod.mk.injEq] at H;obtain ⟨rfl,rfl,rfl⟩:=H;have aC:0≤((ji7):Int):=dT;have aD:(ji7)<(l0.length:Int):=dT;obtain ⟨aI,aG,aH⟩:=Kd.at_int aQ.out (ji7) aC aD;cases aG
      replace aC:=eq_true aC;replace aD:=eq_true aD;go_wp2
      go_ret3
      exact ⟨by rfl,by repeat (first|exact Drawn0.refl _|apply Drawn0.step)⟩
     rw [if_neg aX] at H
     have bO:=decide_eq_false aX;clear aX;simp only [Option.some.injEq,Prod.mk.injEq] at H;obtain ⟨rfl,rfl,rfl⟩:=H;have aC:0≤((ji7):Int):=dT;have aD:(ji7)<(l0.length:Int):=dT;obtain ⟨aI,aG,aH⟩:=Kd.at_int aQ.out (ji7) aC aD;cases aG
     replace aC:=eq_true aC;replace aD:=eq_true aD;go_wp2
     go_ret3
     exact ⟨by rfl,by repeat (first|exact Drawn0.refl _|apply Drawn0.step)⟩

end Go.Proofs.YtljbdchibfjbdaaDoor.PFnIns
