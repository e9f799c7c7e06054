/- A part of the proof of laws.FnIns. No condition beyond what its theorems say. -/
import Derived.Test.YtljbdchibfjbdaaDoorVFnInsPx18
import Derived.Test.YtljbdchibfjbdaaDoorVFnInsPx19
namespace Go.Proofs.YtljbdchibfjbdaaDoor.PFnIns
open Go.RowKit Go.Proofs.YtljbdchibfjbdaaDoorW.PrintWords Go.Proofs.YtljbdchibfjbdaaDoorW.PrintLast Go.Proofs.YtljbdchibfjbdaaDoorW.PrintMore
set_option linter.unusedVariables false
set_option linter.unusedSimpArgs false

mutual
def Z6.l0:Nat→Int→Int→Int→List (S102)→Int→List (S102)→Option (Int × (List (S102)))
 | 0,_,_,_,_,_,_=>none
 | k+1,x4,x6,aE,aA,aG,aD=>if x6<(aA.length:Int) then (if 0≤x6 then (if x6=x4 then (if (rd_T102 aA x6).f0=true then ((Z17.f k ((rd_T102 aA x6).f0) ((rd_T102 aA x6).f1) ((rd_T102 aA x6).f2.f0) ((rd_T102 aA x6).f2.f1) ((rd_T102 aA x6).f2.f2) ((rd_T102 aA x6).f2.f3) ((rd_T102 aA x6).f3) ((rd_T102 aA x6).f4) ((rd_T102 aA x6).f5) ((rd_T102 aA x6).f6) ((rd_T102 aA x6).f7) 1).bind fun aC=>(if x6<(aD.length:Int) then (Z6.l0 k x4 (wrap64 (x6+1)) aE aA aG (aD.set (x6:Int).toNat (⟨aC.1,aC.2.1,(⟨aC.2.2.1,aC.2.2.2.1,aC.2.2.2.2.1,aC.2.2.2.2.2.1⟩:S25),aC.2.2.2.2.2.2.1,aC.2.2.2.2.2.2.2.1,aC.2.2.2.2.2.2.2.2.1,aC.2.2.2.2.2.2.2.2.2.1,aC.2.2.2.2.2.2.2.2.2.2⟩:S102))) else (none))) else (Z6.l0 k x4 (wrap64 (x6+1)) aE aA aG aD)) else (if (rd_T102 aA x6).f1=true then ((Z26.f k aE aA x6).bind fun aH=>((Z66.f ((rd_T102 aA x6).f2.f0) ((rd_T102 aA x6).f2.f1) ((rd_T102 aA x6).f2.f2) ((rd_T102 aA x6).f2.f3) aH.1 aH.2.1 aH.2.2.1 aH.2.2.2).bind fun aI=>(Z6.j1 k x4 x6 2 aI aE aA aG aD ((rd_T102 aA x6).f0) ((rd_T102 aA x6).f1) ((rd_T102 aA x6).f2.f0) ((rd_T102 aA x6).f2.f1) ((rd_T102 aA x6).f2.f2) ((rd_T102 aA x6).f2.f3) ((rd_T102 aA x6).f3) ((rd_T102 aA x6).f4) ((rd_T102 aA x6).f5) ((rd_T102 aA x6).f6) ((rd_T102 aA x6).f7)))) else (Z6.j1 k x4 x6 2 false aE aA aG aD ((rd_T102 aA x6).f0) ((rd_T102 aA x6).f1) ((rd_T102 aA x6).f2.f0) ((rd_T102 aA x6).f2.f1) ((rd_T102 aA x6).f2.f2) ((rd_T102 aA x6).f2.f3) ((rd_T102 aA x6).f3) ((rd_T102 aA x6).f4) ((rd_T102 aA x6).f5) ((rd_T102 aA x6).f6) ((rd_T102 aA x6).f7)))) else (none)) else (some (aG,aD))
def Z6.j1:Nat→Int→Int→Int→Bool→Int→List (S102)→Int→List (S102)→Bool→Bool→Int→Int→Int→Int→Int→Int→Int→Int→Bool→Option (Int × (List (S102)))
 | 0,_,_,_,_,_,_,_,_,_,_,_,_,_,_,_,_,_,_,_=>none
 | k+1,x4,x6,x8,bG,aE,aG,aH,aD,aI,aJ,aK,aN,aQ,aT,aV,aW,aX,bA,bD=>if bG=true then (if aI=true then ((Z17.f k aI aJ aK aN aQ aT aV aW aX bA bD 3).bind fun aA=>(if 0≤x6 then (if x6<(aD.length:Int) then (Z6.l0 k x4 (wrap64 (x6+1)) aE aG aH (aD.set (x6:Int).toNat (⟨aA.1,aA.2.1,(⟨aA.2.2.1,aA.2.2.2.1,aA.2.2.2.2.1,aA.2.2.2.2.2.1⟩:S25),aA.2.2.2.2.2.2.1,aA.2.2.2.2.2.2.2.1,aA.2.2.2.2.2.2.2.2.1,aA.2.2.2.2.2.2.2.2.2.1,aA.2.2.2.2.2.2.2.2.2.2⟩:S102))) else (none)) else (none))) else (Z6.l0 k x4 (wrap64 (x6+1)) aE aG aH aD)) else (if aI=true then ((Z17.f k aI aJ aK aN aQ aT aV aW aX bA bD x8).bind fun aC=>(if 0≤x6 then (if x6<(aD.length:Int) then (Z6.l0 k x4 (wrap64 (x6+1)) aE aG aH (aD.set (x6:Int).toNat (⟨aC.1,aC.2.1,(⟨aC.2.2.1,aC.2.2.2.1,aC.2.2.2.2.1,aC.2.2.2.2.2.1⟩:S25),aC.2.2.2.2.2.2.1,aC.2.2.2.2.2.2.2.1,aC.2.2.2.2.2.2.2.2.1,aC.2.2.2.2.2.2.2.2.2.1,aC.2.2.2.2.2.2.2.2.2.2⟩:S102))) else (none)) else (none))) else (Z6.l0 k x4 (wrap64 (x6+1)) aE aG aH aD))
end
def Z6.f (k:Nat) (aC:Int) (aD:List (S102)):Option (Int × (List (S102))):=(Z46.f aC aD).bind fun aA=>((Z11.f k aC aD).bind fun aG=>(if aG=true then ((Z4.f k aC aD).bind fun aE=>(Z6.l0 k aE.1 0 aC aD aA.1 aA.2)) else (some (aA.1,aA.2))))
theorem Z6.mono_l:∀ k,(∀ y0 y1 y2 y3 y4 y5,LeO (Z6.l0 k y0 y1 y2 y3 y4 y5) (Z6.l0 (k+1) y0 y1 y2 y3 y4 y5))∧(∀ y0 y1 y2 y3 y4 y5 y6 y7 y8 y9 aA aC aD aE aG aH aI aJ aK,LeO (Z6.j1 k y0 y1 y2 y3 y4 y5 y6 y7 y8 y9 aA aC aD aE aG aH aI aJ aK) (Z6.j1 (k+1) y0 y1 y2 y3 y4 y5 y6 y7 y8 y9 aA aC aD aE aG aH aI aJ aK))
 | 0=>by refine ⟨?_,?_⟩ <;> intros <;> intro r h <;> simp [Z6.l0,Z6.j1] at h
 | k+1=>by
  obtain ⟨ih0,ih1⟩:=Z6.mono_l k;refine ⟨?_,?_⟩
  ·intro y0 y1 y2 y3 y4 y5
   unfold Z6.l0
   repeat' (with_reducible first|apply ih0|apply ih1|apply Z26.mono|apply Z17.mono|exact lR _|refine lI ?_ ?_|refine lB ?_ fun _=>?_)
  ·intro y0 y1 y2 y3 y4 y5 y6 y7 y8 y9 aA aC aD aE aG aH aI aJ aK
   unfold Z6.j1
   repeat' (with_reducible first|apply ih0|apply Z17.mono|exact lR _|refine lI ?_ ?_|refine lB ?_ fun _=>?_)
theorem Z6.mono:∀ a0 a1 k,LeO (Z6.f k a0 a1) (Z6.f (k+1) a0 a1):=by
 intro a0 a1 k;obtain ⟨ih0,ih1⟩:=Z6.mono_l k;unfold Z6.f
 repeat' (with_reducible first|apply ih0|apply Z11.mono|apply Z4.mono|exact lR _|refine lI ?_ ?_|refine lB ?_ fun _=>?_)
def Z6.T12:Bool × List (List Nat × List Nat):=(true,[([],[]),([0],[0]),([1],[1]),([2],[2]),([3,2],[2,3]),([2],[2]),([2],[2]),([5,6,2,2],[2,5,6]),([4,7,7,2],[2,4,7]),([2,8],[2,8])])
def Z6.B12:List Nat:=[0,1,3,7,15,7,7,103,255,511]
theorem Z6.tab12:rtab .any (opsOf Tryd.f92 12)=Z6.T12:=by kernel_rfl
theorem Z6.bits12:waitsOk Z6.T12.2 Z6.B12=true:=by kernel_rfl
def Z6.T15:Bool × List (List Nat × List Nat):=(true,[([],[]),([0],[0]),([],[]),([],[]),([],[]),([3,4],[3,4]),([1,2,0,1,2,3,4,5],[1,2]),([6,5,5,0,1,2,3,4,5],[5,6])])
def Z6.B15:List Nat:=[0,1,0,0,0,24,63,127]
theorem Z6.tab15:rtab .any (opsOf Tryd.f92 15)=Z6.T15:=by kernel_rfl
theorem Z6.bits15:waitsOk Z6.T15.2 Z6.B15=true:=by kernel_rfl
set_option maxHeartbeats 60000000 in
set_option maxRecDepth 100000 in
theorem Z6.calls (k:Nat) (aN:Int) (cR:Option Addr) (bQ:Nat) (aC:List (S102)) (r1:Int) (r2:List (S102)) (w:World) (hr0_1:Kd.C k102 w cR aC.length aC) (hc0_1:aC.length≤bQ) (h:Z6.f k aN aC=some (r1,r2)) :
  Calls Tryd.prog 92 #[.agg #[aN,.slice cR aC.length bQ]] w fun e w'=>∃ jB:Value,e=.returned (.agg #[r1,jB])∧Kd.R k102 102 w' w.heap.size (fun _=>True) jB r2∧Below w.heap.size w w':=by
 have uV:=Tryd.underlying79;have rT:=Tryd.underlying102;have uW:=Tryd.underlying25;have cK:=aM hr0_1;have cV:=aM hc0_1;clear hr0_1 hc0_1;have HB:=aM (Below.refl w.heap.size w);have H:((Z46.f aN aC).bind fun dC=>((Z11.f k aN aC).bind fun eY=>(if eY=true then ((Z4.f k aN aC).bind fun iI=>(Z6.l0 k iI.1 0 aN aC dC.1 dC.2)) else (some (dC.1,dC.2)))))=some (r1,r2):=h
 clear h;obtain ⟨⟨aQ,cS⟩,jC,H⟩:=hB H
 try dsimp only at H
 have A2:=aM jC;clear jC;obtain ⟨eY,jD,H⟩:=hB H;have A3:=aM jD;clear jD
 by_cases c4:eY=true
 case neg =>
  replace c4:=Bool.eq_false_iff.mpr c4;subst c4;replace H:=hF H;simp only [Option.some.injEq,Prod.mk.injEq] at H;obtain ⟨rfl,rfl⟩:=H;go_enter Tryd.func92,Tryd.ntmps92
  go_wp2_with (first|((with_reducible refine gD (N:=1) rfl ?_);refine bE (N:=1) (cs:=#[aN,.slice cR aC.length bQ]) (t:=79) ?_;intro cT hg uX hbox hb;have aH:=aM (hbox);have iJ:=gF hg HB;have iK:=gF hg HB;replace HB:=rS HB hb;clear hb hbox hg)|((with_reducible refine gD (N:=2) rfl ?_);refine bE (N:=2) (cs:=#[.int .i64 0,.slice none 0 0]) (t:=79) ?_;intro bT hg uY hbox hb;have aI:=aM (hbox);have iL:=gF hg HB;have iM:=gF hg HB;have bM:=nM hg aH;have bN:=nH hg aH;replace aH:=rB aH hb;replace HB:=rS HB hb;clear hb hbox hg;have nR:=bM.out;have nS:=bN.out;have nT:=cA2 aH.out)|((with_reducible refine gC (f:=79) rfl ?_);refine goesL_ (some 10) rfl rfl Tryd.func79 (by kernel_rfl) rfl #[.agg #[aN,.slice cR aC.length bQ]] rfl xR ?_;(with_reducible refine (Z46.calls aN _ _ aC aQ cS _ ?side1 ?side2 A2.out).mono ?_);(case side1=>exact cM (cB cK.out HB.out));(case side2=>exact cV.out);rintro e uZ ⟨jF,rfl,ho0,hb⟩;refine ⟨_,rfl,?_⟩;have aT:=aM (Kd.R_lower ho0 (below_size (bl HB.out)));replace aH:=rB aH hb;replace aI:=rB aI hb;replace HB:=rS HB hb;(repeat first|clear hb|clear ho0))|((with_reducible refine gD (N:=3) rfl ?_);refine bR aT (N:=3) (cs:=#[.int .i64 0,.slice none 0 0]) (t:=79) ?_;intro bI hg vA hbox hb;have aJ:=aM (hbox);have iN:=gF hg HB;have iO:=gF hg HB;have bO:=nM hg aH;have bP:=nH hg aH;have cN:=nM hg aI;have cO:=nH hg aI;replace aT:=rK aT hb;replace aH:=rB aH hb;replace aI:=rB aI hb;replace HB:=rS HB hb;clear hb hbox hg;have nV:=bP.out;have nZ:=bO.out;have oA:=cO.out;have oB:=cN.out;have oC:=cA2 aJ.out;obtain ⟨dD,dE,iP⟩:=Kd.R_slice aT.out;subst iP;have oD:=cA2 aH.out)|((with_reducible refine gC (f:=78) rfl ?_);refine goesL_ (some 12) rfl rfl Tryd.func78 (by kernel_rfl) rfl #[.agg #[aN,.slice cR aC.length bQ]] rfl xR ?_;(with_reducible refine (Z11.calls k aN _ _ aC false _ ?side1 ?side2 A3.out).mono ?_);(case side1=>exact cB cK.out (bl HB.out));(case side2=>exact cV.out);rintro e vB ⟨rfl,hb⟩;refine ⟨_,rfl,?_⟩;replace aT:=aM (kB (kr (rT2 aT.out aJ.out (.int .i64 aQ) (.slice dD cS.length dE))) hb);replace aH:=aM (bB (fm aH.out) hb);replace aI:=aM (bB (fm aI.out) hb);replace aJ:=aM (bB (g:=bI) (o:=.cells #[aQ,.slice dD cS.length dE] 79 (0,0)) (bm aJ.out) hb);replace HB:=rS HB hb;(try clear hb);have oE:=cA2 aJ.out;have oF:=cA2 aI.out))
  refine bodyPost_ret (results_cell_row rfl _ _ bT 79 #[aQ,.slice dD cS.length dE] (0,0) _ rfl (bm aI.out) Tryd.underlying79 rfl (by kernel_rfl)) rfl ?_
  exact ⟨_,xW,kr (Kd.R_mono (rT2 aT.out aI.out (.int .i64 aQ) (.slice dD cS.length dE)) (fun _ hk=>trivial)),bl HB.out⟩
 subst c4;replace H:=hP H rfl;obtain ⟨⟨bU,jG⟩,jE,H⟩:=hB H
 try dsimp only at H
 have A5:=aM jE;clear jE;have H':=aM H;clear H;go_enter Tryd.func92,Tryd.ntmps92
 go_wp2_with (first|((with_reducible refine gD (N:=1) rfl ?_);refine bE (N:=1) (cs:=#[aN,.slice cR aC.length bQ]) (t:=79) ?_;intro cT hg w6 hbox hb;have aH:=aM (hbox);have iJ:=gF hg HB;have iK:=gF hg HB;replace HB:=rS HB hb;clear hb hbox hg)|((with_reducible refine gD (N:=2) rfl ?_);refine bE (N:=2) (cs:=#[.int .i64 0,.slice none 0 0]) (t:=79) ?_;intro bT hg w7 hbox hb;have aI:=aM (hbox);have iL:=gF hg HB;have iM:=gF hg HB;have bM:=nM hg aH;have bN:=nH hg aH;replace aH:=rB aH hb;replace HB:=rS HB hb;clear hb hbox hg;have vC:=bM.out;have vD:=bN.out;have vE:=cA2 aH.out)|((with_reducible refine gC (f:=79) rfl ?_);refine goesL_ (some 10) rfl rfl Tryd.func79 (by kernel_rfl) rfl #[.agg #[aN,.slice cR aC.length bQ]] rfl xR ?_;(with_reducible refine (Z46.calls aN _ _ aC aQ cS _ ?side1 ?side2 A2.out).mono ?_);(case side1=>exact cM (cB cK.out HB.out));(case side2=>exact cV.out);rintro e vU ⟨jF,rfl,ho0,hb⟩;refine ⟨_,rfl,?_⟩;have aT:=aM (Kd.R_lower ho0 (below_size (bl HB.out)));replace aH:=rB aH hb;replace aI:=rB aI hb;replace HB:=rS HB hb;(repeat first|clear hb|clear ho0))|((with_reducible refine gD (N:=3) rfl ?_);refine bR aT (N:=3) (cs:=#[.int .i64 0,.slice none 0 0]) (t:=79) ?_;intro bI hg vV hbox hb;have aJ:=aM (hbox);have iN:=gF hg HB;have iO:=gF hg HB;have bO:=nM hg aH;have bP:=nH hg aH;have cN:=nM hg aI;have cO:=nH hg aI;replace aT:=rK aT hb;replace aH:=rB aH hb;replace aI:=rB aI hb;replace HB:=rS HB hb;clear hb hbox hg;have rV:=bP.out;have rW:=bO.out;have rX:=cO.out;have rY:=cN.out;have rZ:=cA2 aJ.out;obtain ⟨eZ,fA,jH⟩:=Kd.R_slice aT.out;subst jH;have sB:=cA2 aH.out)|((with_reducible refine gC (f:=78) rfl ?_);refine goesL_ (some 12) rfl rfl Tryd.func78 (by kernel_rfl) rfl #[.agg #[aN,.slice cR aC.length bQ]] rfl xR ?_;(with_reducible refine (Z11.calls k aN _ _ aC true _ ?side1 ?side2 A3.out).mono ?_);(case side1=>exact cB cK.out (bl HB.out));(case side2=>exact cV.out);rintro e vW ⟨rfl,hb⟩;refine ⟨_,rfl,?_⟩;replace aT:=aM (kB (kr (rT2 aT.out aJ.out (.int .i64 aQ) (.slice eZ cS.length fA))) hb);replace aH:=aM (bB (fm aH.out) hb);replace aI:=aM (bB (fm aI.out) hb);replace aJ:=aM (bB (g:=bI) (o:=.cells #[aQ,.slice eZ cS.length fA] 79 (0,0)) (bm aJ.out) hb);replace HB:=rS HB hb;(try clear hb);have sC:=cA2 aH.out)|((with_reducible refine gC (f:=93) rfl ?_);refine goesL_ (some 17) rfl rfl Tryd.func93 (by kernel_rfl) rfl #[.agg #[aN,.slice cR aC.length bQ]] rfl xR ?_;(with_reducible refine (Z4.calls k aN _ _ aC bU jG _ ?side1 ?side2 A5.out).mono ?_);(case side1=>exact cM (cB cK.out HB.out));(case side2=>exact cV.out);rintro e vX ⟨rfl,hb⟩;refine ⟨_,rfl,?_⟩;replace aT:=rK aT hb;replace aH:=rB aH hb;replace aI:=rB aI hb;replace aJ:=rB aJ hb;replace HB:=rS HB hb;(try clear hb)))
 go_loopg [6] k (fun kq v6 w'=>∃ (aA:Int) (aK:List (S102)) (u809001:Value),v6=.int .i64 aA∧Aside0 (Z6.l0 kq bU aA aN aC aQ aK=some (r1,r2))∧Aside0 (kq≤k)∧Aside0 (Kd.R k102 102 w' w.heap.size (fun _=>True) u809001 aK)∧Aside0 (w'.heap[cT]?=some (.cells #[aN,(.slice cR aC.length bQ)] 79 (0,0)))∧Aside0 (w'.heap[bT]?=some (.cells #[.int .i64 0,(.slice none 0 0)] 79 (0,0)))∧Aside0 (w'.heap[bI]?=some (.cells #[aQ,u809001] 79 (0,0)))∧Aside0 (Below w.heap.size w w'))
 case atStart=>exact ⟨(0),(cS),(.slice eZ cS.length fA),xE,H',⟨Nat.le_refl _⟩,⟨kr aT.out⟩,⟨bk aH.out⟩,⟨bk aI.out⟩,⟨bk aJ.out⟩,⟨bl HB.out⟩⟩
 case round =>
  clear H'
  repeat first|clear c1|clear p2|clear c4|clear c7|clear c8|clear c9|clear vY|clear vZ
  obtain ⟨aA,aK,u809001,rfl,HA,cP,aE,aH,aI,aJ,HB⟩:=hrel;cases gk with
  | zero=>exact absurd HA.out (by simp [Z6.l0])
  | succ k1 =>
   have H:=HA.out;clear HA;simp only [Z6.l0] at H
   by_cases dH:aA<(aC.length:Int)
   case neg =>
    rw [if_neg dH] at H
    have iQ:=decide_eq_false dH;clear dH;simp only [Option.some.injEq,Prod.mk.injEq] at H;obtain ⟨rfl,rfl⟩:=H;have oG:=bM.out;have oH:=bN.out;have oI:=bO.out;have oJ:=bP.out;have oK:=cA2 aH.out;have oL:=cO.out;have oM:=cN.out;have oO:=cA2 aJ.out;have oP:=cA2 aI.out;obtain ⟨fL,fM,iR⟩:=Kd.R_slice aE.out;subst iR;go_wp2
    refine bodyPost_ret (results_cell_row rfl _ _ bT 79 #[aQ,.slice fL aK.length fM] (0,0) _ rfl (bm aI.out) Tryd.underlying79 rfl (by kernel_rfl)) rfl ?_
    exact ⟨_,xW,kr (Kd.R_mono (rT2 aE.out aI.out (.int .i64 aQ) (.slice fL aK.length fM)) (fun _ hk=>trivial)),bl HB.out⟩
   rw [if_pos dH] at H
   have iQ:=decide_eq_true dH;clear dH;obtain ⟨sD,H⟩:=gI H
   by_cases dB:aA=bU
   case pos =>
    rw [if_pos dB] at H
    have fN:(aA == bU)=true:=beq_iff_eq.mpr dB;have fO:(aA != bU)=false:=bne_eq_false_iff_eq.mpr dB;clear dB;obtain ⟨fB,hbq23⟩:∃ b_:Bool,b_=((rd_T102 aC aA).f0):=⟨_,rfl⟩;replace H:(if fB=true then ((Z17.f k1 (fB) ((rd_T102 aC aA).f1) ((rd_T102 aC aA).f2.f0) ((rd_T102 aC aA).f2.f1) ((rd_T102 aC aA).f2.f2) ((rd_T102 aC aA).f2.f3) ((rd_T102 aC aA).f3) ((rd_T102 aC aA).f4) ((rd_T102 aC aA).f5) ((rd_T102 aC aA).f6) ((rd_T102 aC aA).f7) 1).bind fun cE=>(if aA<(aK.length:Int) then (Z6.l0 k1 bU (wS aA) aN aC aQ (aK.set (aA:Int).toNat (⟨cE.1,cE.2.1,(⟨cE.2.2.1,cE.2.2.2.1,cE.2.2.2.2.1,cE.2.2.2.2.2.1⟩:S25),cE.2.2.2.2.2.2.1,cE.2.2.2.2.2.2.2.1,cE.2.2.2.2.2.2.2.2.1,cE.2.2.2.2.2.2.2.2.2.1,cE.2.2.2.2.2.2.2.2.2.2⟩:S102))) else (none))) else (Z6.l0 k1 bU (wS aA) aN aC aQ aK))=some (r1,r2):=by rw [← hbq23] at H;exact H
    have bL:=aM hbq23;clear hbq23
    by_cases eU:fB=true
    case neg =>
     replace eU:=Bool.eq_false_iff.mpr eU;subst eU;replace H:=hF H;have H':=aM H;clear H;have sE:=bM.out;have sF:=bN.out;have sG:=bO.out;have sH:=bP.out;have sI:=cA2 aH.out;have cG:0≤(aA:Int):=dT;have cH:aA<(aC.length:Int):=dT;obtain ⟨cQ,dG,bJ,bK,bV,bW,bX,bY,bZ,cA,cC,cD,bH⟩:=at_T102 cK.out aA cG cH
     (try rw [← bL.out] at bJ)
     cases dG
     replace bJ:=xB HB bJ;replace bK:=xB HB bK;replace bV:=xB HB bV;replace bW:=xB HB bW;replace bX:=xB HB bX;replace bY:=xB HB bY;replace bZ:=xB HB bZ;replace cA:=xB HB cA;replace cC:=xB HB cC;replace cD:=xB HB cD;replace bH:=xB HB bH;replace cG:=eq_true cG;replace cH:=eq_true cH;go_wp2_with (((with_reducible refine gD (N:=7) rfl ?_);refine bR aE (N:=7) (cs:=#[.bool false,.bool false,.int .i64 0,.int .i64 0,.int .i64 0,.int .i64 0,.int .i64 0,.int .i64 0,.int .i64 0,.int .i64 0,.bool false]) (t:=102) ?_;intro aG hg wA hbox hb;have aD:=aM (hbox);have fP:=gF hg HB;have fQ:=gF hg HB;have aV:=nM hg aH;have aW:=nH hg aH;have aX:=nM hg aI;have bA:=nH hg aI;have bD:=nM hg aJ;have bG:=nH hg aJ;replace aE:=aM (kB (Kd.R_elderB (kr aE.out) aG (Nat.le_of_eq hg.symm)) hb);replace aH:=rB aH hb;replace aI:=rB aI hb;replace aJ:=rB aJ hb;replace HB:=rS HB hb;clear hb hbox hg;have sJ:=aW.out;have sK:=aV.out;have sL:=bA.out;have sM:=aX.out;have sN:=bG.out;have sO:=bD.out;have sP:=cA11 aD.out))
     go_roundg k1
     case measure=>have:=cP.out;omega
     case rel=>skip;exact ⟨(wS aA),(aK),(u809001),xE,H',⟨by have:=cP.out;omega⟩,⟨kr (Kd.R_mono (rF11 (g:=aG) (Kd.R_mono aE.out (fun k_ hk=>(⟨hk,hk.2⟩:_∧k_≠aG))) (fun _ hk=>hk.2) (.bool false) (.bool ((rd_T102 aC aA).f1)) (.int .i64 ((rd_T102 aC aA).f2.f0)) (.int .i64 ((rd_T102 aC aA).f2.f1)) (.int .i64 ((rd_T102 aC aA).f2.f2)) (.int .i64 ((rd_T102 aC aA).f2.f3)) (.int .i64 ((rd_T102 aC aA).f3)) (.int .i64 ((rd_T102 aC aA).f4)) (.int .i64 ((rd_T102 aC aA).f5)) (.int .i64 ((rd_T102 aC aA).f6)) (.bool ((rd_T102 aC aA).f7))) (fun _ hk=>trivial))⟩,⟨fm aH.out⟩,⟨fm aI.out⟩,⟨fm aJ.out⟩,⟨bl HB.out⟩⟩
    subst eU;replace H:=hP H rfl;obtain ⟨⟨dK,dL,dM,dN,dO,dP,dQ,dR,dS,dU,dV⟩,gP,H⟩:=hB H
    try dsimp only at H
    have oQ:=aM gP;clear gP;obtain ⟨sQ,H⟩:=gI H;obtain ⟨gQ,cW⟩:∃ y_:List (S102),y_=(aK.set (aA:Int).toNat (⟨dK,dL,(⟨dM,dN,dO,dP⟩:S25),dQ,dR,dS,dU,dV⟩:S102)):=⟨_,rfl⟩;replace H:(Z6.l0 k1 bU (wS aA) aN aC aQ gQ)=some (r1,r2):=by (rw [cW];with_reducible exact H)
    have iS:=aM cW;clear cW;have H':=aM H;clear H;have sR:=bM.out;have sT:=bN.out;have sU:=bO.out;have sV:=bP.out;have sW:=cA2 aH.out;have cG:0≤(aA:Int):=dT;have cH:aA<(aC.length:Int):=dT;obtain ⟨cQ,dG,bJ,bK,bV,bW,bX,bY,bZ,cA,cC,cD,bH⟩:=at_T102 cK.out aA cG cH
    (try rw [← bL.out] at bJ)
    cases dG
    replace bJ:=xB HB bJ;replace bK:=xB HB bK;replace bV:=xB HB bV;replace bW:=xB HB bW;replace bX:=xB HB bX;replace bY:=xB HB bY;replace bZ:=xB HB bZ;replace cA:=xB HB cA;replace cC:=xB HB cC;replace cD:=xB HB cD;replace bH:=xB HB bH;replace cG:=eq_true cG;replace cH:=eq_true cH
    try go_wp2_with (((with_reducible refine gD (N:=7) rfl ?_);refine bR aE (N:=7) (cs:=#[.bool false,.bool false,.int .i64 0,.int .i64 0,.int .i64 0,.int .i64 0,.int .i64 0,.int .i64 0,.int .i64 0,.int .i64 0,.bool false]) (t:=102) ?_;intro aG hg wB hbox hb;have aD:=aM (hbox);have fP:=gF hg HB;have fQ:=gF hg HB;have aV:=nM hg aH;have aW:=nH hg aH;have aX:=nM hg aI;have bA:=nH hg aI;have bD:=nM hg aJ;have bG:=nH hg aJ;replace aE:=aM (kB (Kd.R_elderB (kr aE.out) aG (Nat.le_of_eq hg.symm)) hb);replace aH:=rB aH hb;replace aI:=rB aI hb;replace aJ:=rB aJ hb;replace HB:=rS HB hb;clear hb hbox hg;have sX:=aW.out;have sY:=aV.out;have tA:=bA.out;have tB:=aX.out;have tC:=bG.out;have tD:=bD.out;have tE:=cA11 aD.out))
    refine nW (fun W=>Aside0 (Kd.R k102 102 W w.heap.size (fun k_=>k_≠aG) u809001 aK)∧Aside0 (W.heap[cT]?=some (.cells #[aN,.slice (some cQ) aC.length bQ] 79 (0,0)))∧Aside0 (W.heap[bT]?=some (.cells #[.int .i64 0,.slice none 0 0] 79 (0,0)))∧Aside0 (W.heap[bI]?=some (.cells #[aQ,u809001] 79 (0,0)))∧Aside0 (W.heap[aG]?=some (.cells #[.bool true,((rd_T102 aC aA).f1),((rd_T102 aC aA).f2.f0),((rd_T102 aC aA).f2.f1),((rd_T102 aC aA).f2.f2),((rd_T102 aC aA).f2.f3),((rd_T102 aC aA).f3),((rd_T102 aC aA).f4),((rd_T102 aC aA).f5),((rd_T102 aC aA).f6),((rd_T102 aC aA).f7)] 102 (0,0)))∧Aside0 (Below w.heap.size w W)) ⟨⟨kr (Kd.R_mono (rF11 (g:=aG) (Kd.R_mono aE.out (fun k_ hk=>(⟨hk,hk.2⟩:_∧k_≠aG))) (fun _ hk=>hk.2) (.bool true) (.bool ((rd_T102 aC aA).f1)) (.int .i64 ((rd_T102 aC aA).f2.f0)) (.int .i64 ((rd_T102 aC aA).f2.f1)) (.int .i64 ((rd_T102 aC aA).f2.f2)) (.int .i64 ((rd_T102 aC aA).f2.f3)) (.int .i64 ((rd_T102 aC aA).f3)) (.int .i64 ((rd_T102 aC aA).f4)) (.int .i64 ((rd_T102 aC aA).f5)) (.int .i64 ((rd_T102 aC aA).f6)) (.bool ((rd_T102 aC aA).f7))) (fun _ hk=>hk.1.2))⟩,⟨fm aH.out⟩,⟨fm aI.out⟩,⟨fm aJ.out⟩,⟨bm aD.out⟩,⟨bl HB.out⟩⟩ ?_
    intro oR nn_;replace aE:=nn_.1;replace aH:=nn_.2.1;replace aI:=nn_.2.2.1;replace aJ:=nn_.2.2.2.1;replace aD:=nn_.2.2.2.2.1;replace HB:=nn_.2.2.2.2.2;clear nn_;replace aE:=aM (Kd.R_drew aE.out);replace aH:=aM (blk_drew aH.out);replace aI:=aM (blk_drew aI.out);replace aJ:=aM (blk_drew aJ.out);replace aD:=aM (blk_drew aD.out);replace HB:=aM (below_drew1 HB.out);refine start_ (n:=8) (S:=fun w'=>cT2 w' bI (.int .i64 aQ) (u809001) (cS11 w' aG (.bool true) (.bool ((rd_T102 aC aA).f1)) (.int .i64 ((rd_T102 aC aA).f2.f0)) (.int .i64 ((rd_T102 aC aA).f2.f1)) (.int .i64 ((rd_T102 aC aA).f2.f2)) (.int .i64 ((rd_T102 aC aA).f2.f3)) (.int .i64 ((rd_T102 aC aA).f3)) (.int .i64 ((rd_T102 aC aA).f4)) (.int .i64 ((rd_T102 aC aA).f5)) (.int .i64 ((rd_T102 aC aA).f6)) (.bool ((rd_T102 aC aA).f7)))) (ds:=[7]) (dn 8 0) (by kernel_rfl) rfl rfl ⟨cI aJ.out 0,cI aJ.out 1,cI aD.out 0,cI aD.out 1,cI aD.out 2,cI aD.out 3,cI aD.out 4,cI aD.out 5,cI aD.out 6,cI aD.out 7,cI aD.out 8,cI aD.out 9,cI aD.out 10⟩ (fun hHeld=>?_);refine with_tabW Z6.tab15 Z6.bits15 (fun HT_ HW_=>?_)
    generalize oR.drew=wC at aE aH aI aJ aD HB hHeld ⊢
    refine nY (N:=some 47) HT_ ?_;refine pZ 2 49 (bv 8 5) HT_ ?_;refine pZ 4 51 (bv 8 21) HT_ ?_;refine aZ 1 48 (bv 8 23) HT_ HW_ hHeld ?_;refine aZ 3 50 (bv 8 31) HT_ HW_ hHeld ?_;refine one_ (i:=5) (N:=some 52) (bv 8 63) rfl rfl (one_of HT_.out (by kernel_rfl)) (by decide) (fun K hK=>?_)
    refine goes_ Tryd.func102 (by kernel_rfl) rfl #[.agg #[.bool true,((rd_T102 aC aA).f1),((rd_T102 aC aA).f2.f0),((rd_T102 aC aA).f2.f1),((rd_T102 aC aA).f2.f2),((rd_T102 aC aA).f2.f3),((rd_T102 aC aA).f3),((rd_T102 aC aA).f4),((rd_T102 aC aA).f5),((rd_T102 aC aA).f6),((rd_T102 aC aA).f7)],.int .i64 1] (by rfl) rfl rfl xR ?_
    with_reducible refine (Z17.calls k1 true ((rd_T102 aC aA).f1) ((rd_T102 aC aA).f2.f0) ((rd_T102 aC aA).f2.f1) ((rd_T102 aC aA).f2.f2) ((rd_T102 aC aA).f2.f3) ((rd_T102 aC aA).f3) ((rd_T102 aC aA).f4) ((rd_T102 aC aA).f5) ((rd_T102 aC aA).f6) ((rd_T102 aC aA).f7) 1 dK dL dM dN dO dP dQ dR dS dU dV _ oQ.out).mono ?_
    rintro e wD ⟨rfl,hb⟩;refine ⟨_,rfl,?_⟩;replace aE:=rK aE hb;replace aH:=rB aH hb;replace aI:=rB aI hb;replace aJ:=rB aJ hb;replace aD:=rB aD hb;replace HB:=rS HB hb
    (try clear hb)
    have eV:0≤(aA:Int):=dT;have eW:(aA:Int)<((aK.length:Int):Int):=dT;obtain ⟨jI,jJ,gR,gS,jK,vF,gT⟩:=Kd.R_form aE.out (by omega)
    (cases gR)
    have vG:=aM gS;have vH:=aM gT;clear gS jK gT;obtain ⟨vI,iT,gU,fS,fT⟩:=Kd.R_elem aE.out z102 (aA:Int) eV eW;obtain rfl:=k102_openM gU;obtain ⟨oS,oT,oU,oV,oW,oX,oY,oZ,pA,pB,jZ,pC,pD,pE,pF,pG,pH,pI,pJ,pK,pL,kA⟩:=eS102 (rd_T102 aK aA) fS fT;clear iT fS fT gU;replace eV:=eq_true eV;replace eW:=eq_true eW;obtain ⟨vJ,fU,gV,fV,iU⟩:=Kd.R_elem aE.out z102 (aA:Int) (dT) dT;obtain rfl:=k102_openM gV;have fC:=(Kd.R_seg aE.out (aA:Int) (dT) dT (seg:=[.bool dK,.bool dL,.int .i64 dM,.int .i64 dN,.int .i64 dO,.int .i64 dP,.int .i64 dQ,.int .i64 dR,.int .i64 dS,.int .i64 dU,.bool dV]) (j:=0) fU fV (show 11≤11 from by decide) (x':=(⟨dK,dL,(⟨dM,dN,dO,dP⟩:S25),dQ,dR,dS,dU,dV⟩:S102)) (k102_mkM _ _ _ _) (fun _ hk=>hk)).1
    rw [← iS.out] at fC
    have HQ39:=aM fC;clear fU fV iU gV fC;refine hK.out _ _ ⟨cI aJ.out 0,cI aJ.out 1,cI aD.out 0,cI aD.out 1,cI aD.out 2,cI aD.out 3,cI aD.out 4,cI aD.out 5,cI aD.out 6,cI aD.out 7,cI aD.out 8,cI aD.out 9,cI aD.out 10⟩ (fun hHeld=>?_)
    clear hK K;refine norm_ (a':=?_) ?_ ?_;rotate_left
    ·show Act.put _ (some 52) _=_
     simp only [Act.put,sA,sZ,sS,i64_w,i32_w]
     rfl
    refine pZ 6 53 (bv 8 127) HT_ ?_;refine last_ (i:=7) (N:=none) (bv 8 255) rfl rfl (one_of HT_.out (by kernel_rfl)) (by decide) (fun K hK=>?_)
    refine skip_ (w1:=?_) (by rfl) rfl ?_ ?_
    rotate_left
    ·go_simp
     rfl
    refine hK.out _ _ ?_;clear hK K;refine done_ (done_of HT_.out (by kernel_rfl)) ?_
    try go_wp2
    go_roundg k1
    case measure=>have:=cP.out;omega
    case rel=>skip;exact ⟨(wS aA),(gQ),(.slice (some ⟨jI,0,none⟩) aK.length jJ),xE,H',⟨by have:=cP.out;omega⟩,⟨kr (Kd.R_mono HQ39.out (fun _ hk=>trivial))⟩,⟨fR aE.out aH.out⟩,⟨fR aE.out aI.out⟩,⟨fR aE.out aJ.out⟩,⟨bl HB.out⟩⟩
   rw [if_neg dB] at H
   have fN:(aA == bU)=false:=beq_eq_false_iff_ne.mpr dB;have fO:(aA != bU)=true:=bne_iff_ne.mpr dB;have fD:=aM H;clear H;have tF:=bM.out;have tG:=bN.out;have tH:=bO.out;have tI:=bP.out;have tJ:=cA2 aH.out;have cG:0≤(aA:Int):=dT;have cH:aA<(aC.length:Int):=dT;obtain ⟨cQ,dG,bJ,bK,bV,bW,bX,bY,bZ,cA,cC,cD,bH⟩:=at_T102 cK.out aA cG cH;cases dG
   replace bJ:=xB HB bJ;replace bK:=xB HB bK;replace bV:=xB HB bV;replace bW:=xB HB bW;replace bX:=xB HB bX;replace bY:=xB HB bY;replace bZ:=xB HB bZ;replace cA:=xB HB cA;replace cC:=xB HB cC;replace cD:=xB HB cD;replace bH:=xB HB bH;replace cG:=eq_true cG;replace cH:=eq_true cH;go_upto_region 12 with (((with_reducible refine gD (N:=7) rfl ?_);refine bR aE (N:=7) (cs:=#[.bool false,.bool false,.int .i64 0,.int .i64 0,.int .i64 0,.int .i64 0,.int .i64 0,.int .i64 0,.int .i64 0,.int .i64 0,.bool false]) (t:=102) ?_;intro aG hg wE hbox hb;have aD:=aM (hbox);have fP:=gF hg HB;have fQ:=gF hg HB;have aV:=nM hg aH;have aW:=nH hg aH;have aX:=nM hg aI;have bA:=nH hg aI;have bD:=nM hg aJ;have bG:=nH hg aJ;replace aE:=aM (kB (Kd.R_elderB (kr aE.out) aG (Nat.le_of_eq hg.symm)) hb);replace aH:=rB aH hb;replace aI:=rB aI hb;replace aJ:=rB aJ hb;replace HB:=rS HB hb;clear hb hbox hg;have tK:=aW.out;have tL:=aV.out;have tM:=bA.out;have tN:=aX.out;have tO:=bG.out;have tP:=bD.out;have tQ:=cA11 aD.out))
   go_cut [44] (fun pM wc=>∃ (kq:Nat) (cX:Bool),pM=.bool cX∧Aside0 (Z6.j1 kq bU aA 2 cX aN aC aQ aK ((rd_T102 aC aA).f0) ((rd_T102 aC aA).f1) ((rd_T102 aC aA).f2.f0) ((rd_T102 aC aA).f2.f1) ((rd_T102 aC aA).f2.f2) ((rd_T102 aC aA).f2.f3) ((rd_T102 aC aA).f3) ((rd_T102 aC aA).f4) ((rd_T102 aC aA).f5) ((rd_T102 aC aA).f6) ((rd_T102 aC aA).f7)=some (r1,r2))∧Aside0 (kq≤k1)∧Aside0 (Kd.R k102 102 wc w.heap.size (fun k_=>k_≠aG) u809001 aK)∧Aside0 (wc.heap[cT]?=some (.cells #[aN,(.slice (some cQ) aC.length bQ)] 79 (0,0)))∧Aside0 (wc.heap[bT]?=some (.cells #[.int .i64 0,(.slice none 0 0)] 79 (0,0)))∧Aside0 (wc.heap[bI]?=some (.cells #[aQ,u809001] 79 (0,0)))∧Aside0 (wc.heap[aG]?=some (.cells #[((rd_T102 aC aA).f0),((rd_T102 aC aA).f1),((rd_T102 aC aA).f2.f0),((rd_T102 aC aA).f2.f1),((rd_T102 aC aA).f2.f2),((rd_T102 aC aA).f2.f3),((rd_T102 aC aA).f3),((rd_T102 aC aA).f4),((rd_T102 aC aA).f5),((rd_T102 aC aA).f6),((rd_T102 aC aA).f7)] 102 (0,0)))∧Aside0 (Below w.heap.size w wc))
   case first =>
    have H:=fD.out;clear fD;obtain ⟨dW,hbq57⟩:∃ b_:Bool,b_=((rd_T102 aC aA).f1):=⟨_,rfl⟩;replace H:(if dW=true then ((Z26.f k1 aN aC aA).bind fun dF=>((Z66.f ((rd_T102 aC aA).f2.f0) ((rd_T102 aC aA).f2.f1) ((rd_T102 aC aA).f2.f2) ((rd_T102 aC aA).f2.f3) dF.1 dF.2.1 dF.2.2.1 dF.2.2.2).bind fun dX=>(Z6.j1 k1 bU aA 2 dX aN aC aQ aK ((rd_T102 aC aA).f0) dW ((rd_T102 aC aA).f2.f0) ((rd_T102 aC aA).f2.f1) ((rd_T102 aC aA).f2.f2) ((rd_T102 aC aA).f2.f3) ((rd_T102 aC aA).f3) ((rd_T102 aC aA).f4) ((rd_T102 aC aA).f5) ((rd_T102 aC aA).f6) ((rd_T102 aC aA).f7)))) else (Z6.j1 k1 bU aA 2 false aN aC aQ aK ((rd_T102 aC aA).f0) dW ((rd_T102 aC aA).f2.f0) ((rd_T102 aC aA).f2.f1) ((rd_T102 aC aA).f2.f2) ((rd_T102 aC aA).f2.f3) ((rd_T102 aC aA).f3) ((rd_T102 aC aA).f4) ((rd_T102 aC aA).f5) ((rd_T102 aC aA).f6) ((rd_T102 aC aA).f7)))=some (r1,r2):=by rw [← hbq57] at H;exact H
    have cL:=aM hbq57;clear hbq57
    (try rw [← cL.out])
    by_cases eX:dW=true
    case neg =>
     replace eX:=Bool.eq_false_iff.mpr eX;subst eX;replace H:=hF H;have H':=aM H;clear H
     try go_wp2
     refine nW (fun W=>Aside0 (Kd.R k102 102 W w.heap.size (fun k_=>k_≠aG) u809001 aK)∧Aside0 (W.heap[cT]?=some (.cells #[aN,.slice (some cQ) aC.length bQ] 79 (0,0)))∧Aside0 (W.heap[bT]?=some (.cells #[.int .i64 0,.slice none 0 0] 79 (0,0)))∧Aside0 (W.heap[bI]?=some (.cells #[aQ,u809001] 79 (0,0)))∧Aside0 (W.heap[aG]?=some (.cells #[((rd_T102 aC aA).f0),.bool false,((rd_T102 aC aA).f2.f0),((rd_T102 aC aA).f2.f1),((rd_T102 aC aA).f2.f2),((rd_T102 aC aA).f2.f3),((rd_T102 aC aA).f3),((rd_T102 aC aA).f4),((rd_T102 aC aA).f5),((rd_T102 aC aA).f6),((rd_T102 aC aA).f7)] 102 (0,0)))∧Aside0 (Below w.heap.size w W)) ⟨⟨kr (Kd.R_mono (rF11 (g:=aG) (Kd.R_mono aE.out (fun k_ hk=>(⟨hk,hk.2⟩:_∧k_≠aG))) (fun _ hk=>hk.2) (.bool ((rd_T102 aC aA).f0)) (.bool (false)) (.int .i64 ((rd_T102 aC aA).f2.f0)) (.int .i64 ((rd_T102 aC aA).f2.f1)) (.int .i64 ((rd_T102 aC aA).f2.f2)) (.int .i64 ((rd_T102 aC aA).f2.f3)) (.int .i64 ((rd_T102 aC aA).f3)) (.int .i64 ((rd_T102 aC aA).f4)) (.int .i64 ((rd_T102 aC aA).f5)) (.int .i64 ((rd_T102 aC aA).f6)) (.bool ((rd_T102 aC aA).f7))) (fun _ hk=>hk.1.2))⟩,⟨fm aH.out⟩,⟨fm aI.out⟩,⟨fm aJ.out⟩,⟨bm aD.out⟩,⟨bl HB.out⟩⟩ ?_
     intro pN nn_;replace aE:=nn_.1;replace aH:=nn_.2.1;replace aI:=nn_.2.2.1;replace aJ:=nn_.2.2.2.1;replace aD:=nn_.2.2.2.2.1;replace HB:=nn_.2.2.2.2.2;clear nn_;replace aE:=aM (Kd.R_drew aE.out);replace aH:=aM (blk_drew aH.out);replace aI:=aM (blk_drew aI.out);replace aJ:=aM (blk_drew aJ.out);replace aD:=aM (blk_drew aD.out);replace HB:=aM (below_drew1 HB.out);refine start_ (n:=10) (S:=fun w'=>cS11 w' aG (.bool ((rd_T102 aC aA).f0)) (.bool false) (.int .i64 ((rd_T102 aC aA).f2.f0)) (.int .i64 ((rd_T102 aC aA).f2.f1)) (.int .i64 ((rd_T102 aC aA).f2.f2)) (.int .i64 ((rd_T102 aC aA).f2.f3)) (.int .i64 ((rd_T102 aC aA).f3)) (.int .i64 ((rd_T102 aC aA).f4)) (.int .i64 ((rd_T102 aC aA).f5)) (.int .i64 ((rd_T102 aC aA).f6)) (.bool ((rd_T102 aC aA).f7))) (ds:=[]) (dn 10 0) (by kernel_rfl) rfl rfl ⟨cI aD.out 0,cI aD.out 1,cI aD.out 2,cI aD.out 3,cI aD.out 4,cI aD.out 5,cI aD.out 6,cI aD.out 7,cI aD.out 8,cI aD.out 9,cI aD.out 10⟩ (fun hHeld=>?_);refine with_tabW Z6.tab12 Z6.bits12 (fun HT_ HW_=>?_)
     generalize pN.drew=wF at aE aH aI aJ aD HB hHeld ⊢
     refine nY (N:=some 35) HT_ ?_;refine tY (N:=some 36) HT_ HW_ hHeld ?_;refine nY (N:=some 37) HT_ ?_;refine nU (N:=some 38) HT_ ?_;refine nU (N:=some 39) HT_ ?_;refine nU (N:=some 40) HT_ ?_;refine nU (N:=some 41) HT_ ?_;refine nU (N:=some 42) HT_ ?_;refine nU (N:=some 43) HT_ ?_;refine nY (N:=some 44) HT_ ?_;refine done_ (done_of HT_.out (by kernel_rfl)) ?_
     try go_wp2
     go_meet
     case rel=>skip;(try rw [← cL.out]);exact ⟨_,(false),xE,H',⟨by have:=cP.out;omega⟩,⟨kr aE.out⟩,⟨bk aH.out⟩,⟨bk aI.out⟩,⟨bk aJ.out⟩,⟨bk aD.out⟩,⟨bl HB.out⟩⟩
    subst eX;replace H:=hP H rfl;obtain ⟨⟨fE,fF,fG,fH⟩,gW,H⟩:=hB H
    try dsimp only at H
    have pO:=aM gW;clear gW;obtain ⟨dX,gX,H⟩:=hB H;have pP:=aM gX;clear gX;have H':=aM H;clear H
    try go_wp2
    refine nW (fun W=>Aside0 (Kd.R k102 102 W w.heap.size (fun k_=>k_≠aG) u809001 aK)∧Aside0 (W.heap[cT]?=some (.cells #[aN,.slice (some cQ) aC.length bQ] 79 (0,0)))∧Aside0 (W.heap[bT]?=some (.cells #[.int .i64 0,.slice none 0 0] 79 (0,0)))∧Aside0 (W.heap[bI]?=some (.cells #[aQ,u809001] 79 (0,0)))∧Aside0 (W.heap[aG]?=some (.cells #[((rd_T102 aC aA).f0),.bool true,((rd_T102 aC aA).f2.f0),((rd_T102 aC aA).f2.f1),((rd_T102 aC aA).f2.f2),((rd_T102 aC aA).f2.f3),((rd_T102 aC aA).f3),((rd_T102 aC aA).f4),((rd_T102 aC aA).f5),((rd_T102 aC aA).f6),((rd_T102 aC aA).f7)] 102 (0,0)))∧Aside0 (Below w.heap.size w W)) ⟨⟨kr (Kd.R_mono (rF11 (g:=aG) (Kd.R_mono aE.out (fun k_ hk=>(⟨hk,hk.2⟩:_∧k_≠aG))) (fun _ hk=>hk.2) (.bool ((rd_T102 aC aA).f0)) (.bool (true)) (.int .i64 ((rd_T102 aC aA).f2.f0)) (.int .i64 ((rd_T102 aC aA).f2.f1)) (.int .i64 ((rd_T102 aC aA).f2.f2)) (.int .i64 ((rd_T102 aC aA).f2.f3)) (.int .i64 ((rd_T102 aC aA).f3)) (.int .i64 ((rd_T102 aC aA).f4)) (.int .i64 ((rd_T102 aC aA).f5)) (.int .i64 ((rd_T102 aC aA).f6)) (.bool ((rd_T102 aC aA).f7))) (fun _ hk=>hk.1.2))⟩,⟨fm aH.out⟩,⟨fm aI.out⟩,⟨fm aJ.out⟩,⟨bm aD.out⟩,⟨bl HB.out⟩⟩ ?_
    intro pQ nn_;replace aE:=nn_.1;replace aH:=nn_.2.1;replace aI:=nn_.2.2.1;replace aJ:=nn_.2.2.2.1;replace aD:=nn_.2.2.2.2.1;replace HB:=nn_.2.2.2.2.2;clear nn_;replace aE:=aM (Kd.R_drew aE.out);replace aH:=aM (blk_drew aH.out);replace aI:=aM (blk_drew aI.out);replace aJ:=aM (blk_drew aJ.out);replace aD:=aM (blk_drew aD.out);replace HB:=aM (below_drew1 HB.out);refine start_ (n:=10) (S:=fun w'=>cT11 w' aG (.bool ((rd_T102 aC aA).f0)) (.bool true) (.int .i64 ((rd_T102 aC aA).f2.f0)) (.int .i64 ((rd_T102 aC aA).f2.f1)) (.int .i64 ((rd_T102 aC aA).f2.f2)) (.int .i64 ((rd_T102 aC aA).f2.f3)) (.int .i64 ((rd_T102 aC aA).f3)) (.int .i64 ((rd_T102 aC aA).f4)) (.int .i64 ((rd_T102 aC aA).f5)) (.int .i64 ((rd_T102 aC aA).f6)) (.bool ((rd_T102 aC aA).f7)) (cS2 w' cT (.int .i64 aN) (.slice (some cQ) aC.length bQ))) (ds:=[]) (dn 10 0) (by kernel_rfl) rfl rfl ⟨cI aD.out 0,cI aD.out 1,cI aD.out 2,cI aD.out 3,cI aD.out 4,cI aD.out 5,cI aD.out 6,cI aD.out 7,cI aD.out 8,cI aD.out 9,cI aD.out 10,cI aH.out 0,cI aH.out 1⟩ (fun hHeld=>?_);refine with_tabW Z6.tab12 Z6.bits12 (fun HT_ HW_=>?_)
    generalize pQ.drew=wG at aE aH aI aJ aD HB hHeld ⊢
    refine nY (N:=some 35) HT_ ?_;refine tY (N:=some 36) HT_ HW_ hHeld ?_;refine nY (N:=some 37) HT_ ?_;refine nY (N:=some 38) HT_ ?_;refine pZ 6 41 (bv 10 79) HT_ ?_;refine aZ 4 39 (bv 10 95) HT_ HW_ hHeld ?_;refine aZ 5 40 (bv 10 127) HT_ HW_ hHeld ?_;refine one_ (i:=7) (N:=some 42) (bv 10 255) rfl rfl (one_of HT_.out (by kernel_rfl)) (by decide) (fun K hK=>?_)
    refine goes_ Tryd.func81 (by kernel_rfl) rfl #[.agg #[aN,.slice (some cQ) aC.length bQ],aA] (by rfl) rfl rfl xR ?_
    with_reducible refine (Z26.calls k1 aN _ _ aC aA fE fF fG fH _ ?side1 ?side2 pO.out).mono ?_
    (case side1=>exact cM (cB cK.out HB.out))
    (case side2=>exact cV.out)
    rintro e wH ⟨rfl,hb⟩;refine ⟨_,rfl,?_⟩;replace aE:=rK aE hb;replace aH:=rB aH hb;replace aI:=rB aI hb;replace aJ:=rB aJ hb;replace aD:=rB aD hb;replace HB:=rS HB hb
    (try clear hb)
    refine hK.out _ _ ⟨cI aD.out 0,cI aD.out 1,cI aD.out 2,cI aD.out 3,cI aD.out 4,cI aD.out 5,cI aD.out 6,cI aD.out 7,cI aD.out 8,cI aD.out 9,cI aD.out 10,cI aH.out 0,cI aH.out 1⟩ (fun hHeld=>?_)
    clear hK K;refine norm_ (a':=?_) ?_ ?_;rotate_left
    ·show Act.put _ (some 42) _=_
     simp only [Act.put,sA,sZ,sS,i64_w,i32_w]
     rfl
    refine one_ (i:=8) (N:=some 43) (bv 10 511) rfl rfl (one_of HT_.out (by kernel_rfl)) (by decide) (fun K hK=>?_)
    refine goes_ Tryd.func99 (by kernel_rfl) rfl #[.agg #[((rd_T102 aC aA).f2.f0),((rd_T102 aC aA).f2.f1),((rd_T102 aC aA).f2.f2),((rd_T102 aC aA).f2.f3)],.agg #[fE,fF,fG,fH]] (by rfl) rfl rfl xR ?_
    with_reducible refine (Z66.calls ((rd_T102 aC aA).f2.f0) ((rd_T102 aC aA).f2.f1) ((rd_T102 aC aA).f2.f2) ((rd_T102 aC aA).f2.f3) fE fF fG fH dX _ pP.out).mono ?_
    rintro e wI ⟨rfl,hb⟩;refine ⟨_,rfl,?_⟩;replace aE:=rK aE hb;replace aH:=rB aH hb;replace aI:=rB aI hb;replace aJ:=rB aJ hb;replace aD:=rB aD hb;replace HB:=rS HB hb
    (try clear hb)
    refine hK.out _ _ ⟨cI aD.out 0,cI aD.out 1,cI aD.out 2,cI aD.out 3,cI aD.out 4,cI aD.out 5,cI aD.out 6,cI aD.out 7,cI aD.out 8,cI aD.out 9,cI aD.out 10,cI aH.out 0,cI aH.out 1⟩ (fun hHeld=>?_)
    clear hK K;refine norm_ (a':=?_) ?_ ?_;rotate_left
    ·show Act.put _ (some 43) _=_
     simp only [Act.put,sA,sZ,sS,i64_w,i32_w]
     rfl
    refine pZ 9 44 (bv 10 1023) HT_ ?_;refine done_ (done_of HT_.out (by kernel_rfl)) ?_
    try go_wp2
    go_meet
    case rel=>skip;(try rw [← cL.out]);exact ⟨_,(dX),xE,H',⟨by have:=cP.out;omega⟩,⟨kr aE.out⟩,⟨bk aH.out⟩,⟨bk aI.out⟩,⟨bk aJ.out⟩,⟨bk aD.out⟩,⟨bl HB.out⟩⟩
   case rest =>
    clear fD
    repeat first|clear dB|clear fN|clear fO|clear cG|clear cH
    obtain ⟨kq,cX,rfl,HA,HJ47,aE,aH,aI,aJ,aD,HB⟩:=hcut;cases kq with
    | zero=>exact absurd HA.out (by simp [Z6.j1])
    | succ cU =>
     have H:=HA.out;clear HA;simp only [Z6.j1] at H
     by_cases fW:cX=true
     case pos =>
      subst fW;replace H:=hP H rfl
      by_cases dI:((rd_T102 aC aA).f0)=true
      case neg =>
       rw [if_neg dI] at H
       have fX:((rd_T102 aC aA).f0)=false:=by simpa using dI
       clear dI;have H':=aM H;clear H;have tR:=aW.out;have tS:=aV.out;have tT:=bA.out;have tV:=aX.out;have tW:=bG.out;have tX:=bD.out;have kC:wc.cell? ⟨aG,0,none⟩=some ((rd_T102 aC aA).f0):=cI aD.out 0;have kD:wc.cell? ⟨aG,1,none⟩=some ((rd_T102 aC aA).f1):=cI aD.out 1;have kE:wc.cell? ⟨aG,2,none⟩=some ((rd_T102 aC aA).f2.f0):=cI aD.out 2;have kG:wc.cell? ⟨aG,3,none⟩=some ((rd_T102 aC aA).f2.f1):=cI aD.out 3;have kH:wc.cell? ⟨aG,4,none⟩=some ((rd_T102 aC aA).f2.f2):=cI aD.out 4;have kI:wc.cell? ⟨aG,5,none⟩=some ((rd_T102 aC aA).f2.f3):=cI aD.out 5;have kJ:wc.cell? ⟨aG,6,none⟩=some ((rd_T102 aC aA).f3):=cI aD.out 6;have kK:wc.cell? ⟨aG,7,none⟩=some ((rd_T102 aC aA).f4):=cI aD.out 7;have kL:wc.cell? ⟨aG,8,none⟩=some ((rd_T102 aC aA).f5):=cI aD.out 8;have kM:wc.cell? ⟨aG,9,none⟩=some ((rd_T102 aC aA).f6):=cI aD.out 9;have jL:wc.cell? ⟨aG,10,none⟩=some ((rd_T102 aC aA).f7):=cI aD.out 10;have kN:=bF aD.out 0;have kO:=bF aD.out 1;have kP:=bF aD.out 2;have kQ:=bF aD.out 3;have kR:=bF aD.out 4;have kS:=bF aD.out 5;have kT:=bF aD.out 6;have kU:=bF aD.out 7;have kV:=bF aD.out 8;have kW:=bF aD.out 9;have jM:=bF aD.out 10;go_wp2
       go_roundg cU
       case measure=>have:=cP.out;have:=HJ47.out;omega
       case rel=>skip;exact ⟨(wS aA),(aK),(u809001),xE,H',⟨by have:=cP.out;have:=HJ47.out;omega⟩,⟨kr (Kd.R_mono aE.out (fun _ hk=>trivial))⟩,⟨bk aH.out⟩,⟨bk aI.out⟩,⟨bk aJ.out⟩,⟨bl HB.out⟩⟩
      rw [if_pos dI] at H
      have fX:((rd_T102 aC aA).f0)=true:=dI;clear dI;obtain ⟨⟨dY,dZ,eA,eB,eC,eD,eE,eF,eG,eH,eI⟩,gY,H⟩:=hB H
      try dsimp only at H
      have pR:=aM gY;clear gY;obtain ⟨tZ,H⟩:=gI H;obtain ⟨uA,H⟩:=gI H;obtain ⟨gZ,cY⟩:∃ y_:List (S102),y_=(aK.set (aA:Int).toNat (⟨dY,dZ,(⟨eA,eB,eC,eD⟩:S25),eE,eF,eG,eH,eI⟩:S102)):=⟨_,rfl⟩;replace H:(Z6.l0 cU bU (wS aA) aN aC aQ gZ)=some (r1,r2):=by (rw [cY];with_reducible exact H)
      have iV:=aM cY;clear cY;have H':=aM H;clear H;have uB:=aW.out;have uC:=aV.out;have uD:=bA.out;have uE:=aX.out;have uF:=bG.out;have uG:=bD.out;have kX:wc.cell? ⟨aG,0,none⟩=some ((rd_T102 aC aA).f0):=cI aD.out 0;have kY:wc.cell? ⟨aG,1,none⟩=some ((rd_T102 aC aA).f1):=cI aD.out 1;have kZ:wc.cell? ⟨aG,2,none⟩=some ((rd_T102 aC aA).f2.f0):=cI aD.out 2;have lA:wc.cell? ⟨aG,3,none⟩=some ((rd_T102 aC aA).f2.f1):=cI aD.out 3;have lC:wc.cell? ⟨aG,4,none⟩=some ((rd_T102 aC aA).f2.f2):=cI aD.out 4;have lD:wc.cell? ⟨aG,5,none⟩=some ((rd_T102 aC aA).f2.f3):=cI aD.out 5;have lE:wc.cell? ⟨aG,6,none⟩=some ((rd_T102 aC aA).f3):=cI aD.out 6;have lF:wc.cell? ⟨aG,7,none⟩=some ((rd_T102 aC aA).f4):=cI aD.out 7;have lG:wc.cell? ⟨aG,8,none⟩=some ((rd_T102 aC aA).f5):=cI aD.out 8;have lH:wc.cell? ⟨aG,9,none⟩=some ((rd_T102 aC aA).f6):=cI aD.out 9;have jN:wc.cell? ⟨aG,10,none⟩=some ((rd_T102 aC aA).f7):=cI aD.out 10;have lJ:=bF aD.out 0;have lK:=bF aD.out 1;have lL:=bF aD.out 2;have lM:=bF aD.out 3;have lO:=bF aD.out 4;have lP:=bF aD.out 5;have lQ:=bF aD.out 6;have lS:=bF aD.out 7;have lT:=bF aD.out 8;have lU:=bF aD.out 9;have jO:=bF aD.out 10
      try go_wp2
      replace aE:=aM (Kd.R_drew aE.out);replace aH:=aM (blk_drew aH.out);replace aI:=aM (blk_drew aI.out);replace aJ:=aM (blk_drew aJ.out);replace aD:=aM (blk_drew aD.out);replace HB:=aM (below_drew1 HB.out);refine start_ (n:=8) (S:=fun w'=>cT2 w' bI (.int .i64 aQ) (u809001) (cS11 w' aG (.bool ((rd_T102 aC aA).f0)) (.bool ((rd_T102 aC aA).f1)) (.int .i64 ((rd_T102 aC aA).f2.f0)) (.int .i64 ((rd_T102 aC aA).f2.f1)) (.int .i64 ((rd_T102 aC aA).f2.f2)) (.int .i64 ((rd_T102 aC aA).f2.f3)) (.int .i64 ((rd_T102 aC aA).f3)) (.int .i64 ((rd_T102 aC aA).f4)) (.int .i64 ((rd_T102 aC aA).f5)) (.int .i64 ((rd_T102 aC aA).f6)) (.bool ((rd_T102 aC aA).f7)))) (ds:=[7]) (dn 8 0) (by kernel_rfl) rfl rfl ⟨cI aJ.out 0,cI aJ.out 1,cI aD.out 0,cI aD.out 1,cI aD.out 2,cI aD.out 3,cI aD.out 4,cI aD.out 5,cI aD.out 6,cI aD.out 7,cI aD.out 8,cI aD.out 9,cI aD.out 10⟩ (fun hHeld=>?_);refine with_tabW Z6.tab15 Z6.bits15 (fun HT_ HW_=>?_)
      generalize wc.drew=xI at aE aH aI aJ aD HB hHeld ⊢
      refine nY (N:=some 47) HT_ ?_;refine pZ 2 49 (bv 8 5) HT_ ?_;refine pZ 4 51 (bv 8 21) HT_ ?_;refine aZ 1 48 (bv 8 23) HT_ HW_ hHeld ?_;refine aZ 3 50 (bv 8 31) HT_ HW_ hHeld ?_;refine one_ (i:=5) (N:=some 52) (bv 8 63) rfl rfl (one_of HT_.out (by kernel_rfl)) (by decide) (fun K hK=>?_)
      refine goes_ Tryd.func102 (by kernel_rfl) rfl #[.agg #[((rd_T102 aC aA).f0),((rd_T102 aC aA).f1),((rd_T102 aC aA).f2.f0),((rd_T102 aC aA).f2.f1),((rd_T102 aC aA).f2.f2),((rd_T102 aC aA).f2.f3),((rd_T102 aC aA).f3),((rd_T102 aC aA).f4),((rd_T102 aC aA).f5),((rd_T102 aC aA).f6),((rd_T102 aC aA).f7)],.int .i64 3] (by rfl) rfl rfl (by (try simp only [List.map_toArray,List.map_cons,List.map_nil]);(simp only [fX];rfl)) ?_
      with_reducible refine (Z17.calls cU ((rd_T102 aC aA).f0) ((rd_T102 aC aA).f1) ((rd_T102 aC aA).f2.f0) ((rd_T102 aC aA).f2.f1) ((rd_T102 aC aA).f2.f2) ((rd_T102 aC aA).f2.f3) ((rd_T102 aC aA).f3) ((rd_T102 aC aA).f4) ((rd_T102 aC aA).f5) ((rd_T102 aC aA).f6) ((rd_T102 aC aA).f7) 3 dY dZ eA eB eC eD eE eF eG eH eI _ pR.out).mono ?_
      rintro e xJ ⟨rfl,hb⟩;refine ⟨_,rfl,?_⟩;replace aE:=rK aE hb;replace aH:=rB aH hb;replace aI:=rB aI hb;replace aJ:=rB aJ hb;replace aD:=rB aD hb;replace HB:=rS HB hb
      (try clear hb)
      have hD:0≤(aA:Int):=dT;have hH:(aA:Int)<((aK.length:Int):Int):=dT;obtain ⟨jP,jQ,hJ,hO,jR,vK,hU⟩:=Kd.R_form aE.out (by omega)
      (cases hJ)
      have vL:=aM hO;have vM:=aM hU;clear hO jR hU;obtain ⟨vN,iW,hX,fY,gA⟩:=Kd.R_elem aE.out z102 (aA:Int) hD hH;obtain rfl:=k102_openM hX;obtain ⟨pS,pT,pV,pW,pX,qA,qC,qD,qE,qF,lV,qG,qH,qI,qJ,qM,qN,qO,qP,qQ,qS,lW⟩:=eS102 (rd_T102 aK aA) fY gA;clear iW fY gA hX;replace hD:=eq_true hD;replace hH:=eq_true hH;obtain ⟨vO,gB,hY,gG,iX⟩:=Kd.R_elem aE.out z102 (aA:Int) (dT) dT;obtain rfl:=k102_openM hY;have fI:=(Kd.R_seg aE.out (aA:Int) (dT) dT (seg:=[.bool dY,.bool dZ,.int .i64 eA,.int .i64 eB,.int .i64 eC,.int .i64 eD,.int .i64 eE,.int .i64 eF,.int .i64 eG,.int .i64 eH,.bool eI]) (j:=0) gB gG (show 11≤11 from by decide) (x':=(⟨dY,dZ,(⟨eA,eB,eC,eD⟩:S25),eE,eF,eG,eH,eI⟩:S102)) (k102_mkM _ _ _ _) (fun _ hk=>hk)).1
      rw [← iV.out] at fI
      have HQ79:=aM fI;clear gB gG iX hY fI;refine hK.out _ _ ⟨cI aJ.out 0,cI aJ.out 1,cI aD.out 0,cI aD.out 1,cI aD.out 2,cI aD.out 3,cI aD.out 4,cI aD.out 5,cI aD.out 6,cI aD.out 7,cI aD.out 8,cI aD.out 9,cI aD.out 10⟩ (fun hHeld=>?_)
      clear hK K;refine norm_ (a':=?_) ?_ ?_;rotate_left
      ·show Act.put _ (some 52) _=_
       simp only [Act.put,sA,sZ,sS,i64_w,i32_w]
       rfl
      refine pZ 6 53 (bv 8 127) HT_ ?_;refine last_ (i:=7) (N:=none) (bv 8 255) rfl rfl (one_of HT_.out (by kernel_rfl)) (by decide) (fun K hK=>?_)
      refine skip_ (w1:=?_) (by rfl) rfl ?_ ?_
      rotate_left
      ·go_simp
       rfl
      refine hK.out _ _ ?_;clear hK K;refine done_ (done_of HT_.out (by kernel_rfl)) ?_
      try go_wp2
      go_roundg cU
      case measure=>have:=cP.out;have:=HJ47.out;omega
      case rel=>skip;exact ⟨(wS aA),(gZ),(.slice (some ⟨jP,0,none⟩) aK.length jQ),xE,H',⟨by have:=cP.out;have:=HJ47.out;omega⟩,⟨kr (Kd.R_mono HQ79.out (fun _ hk=>trivial))⟩,⟨fR aE.out aH.out⟩,⟨fR aE.out aI.out⟩,⟨fR aE.out aJ.out⟩,⟨bl HB.out⟩⟩
     replace fW:=Bool.eq_false_iff.mpr fW;subst fW;replace H:=hF H
     by_cases dJ:((rd_T102 aC aA).f0)=true
     case neg =>
      rw [if_neg dJ] at H
      have gH:((rd_T102 aC aA).f0)=false:=by simpa using dJ
      clear dJ;have H':=aM H;clear H;have uH:=aW.out;have uI:=aV.out;have uJ:=bA.out;have uK:=aX.out;have uL:=bG.out;have uM:=bD.out;have lX:wc.cell? ⟨aG,0,none⟩=some ((rd_T102 aC aA).f0):=cI aD.out 0;have lY:wc.cell? ⟨aG,1,none⟩=some ((rd_T102 aC aA).f1):=cI aD.out 1;have lZ:wc.cell? ⟨aG,2,none⟩=some ((rd_T102 aC aA).f2.f0):=cI aD.out 2;have mA:wc.cell? ⟨aG,3,none⟩=some ((rd_T102 aC aA).f2.f1):=cI aD.out 3;have mB:wc.cell? ⟨aG,4,none⟩=some ((rd_T102 aC aA).f2.f2):=cI aD.out 4;have mC:wc.cell? ⟨aG,5,none⟩=some ((rd_T102 aC aA).f2.f3):=cI aD.out 5;have mD:wc.cell? ⟨aG,6,none⟩=some ((rd_T102 aC aA).f3):=cI aD.out 6;have mE:wc.cell? ⟨aG,7,none⟩=some ((rd_T102 aC aA).f4):=cI aD.out 7;have mF:wc.cell? ⟨aG,8,none⟩=some ((rd_T102 aC aA).f5):=cI aD.out 8;have mG:wc.cell? ⟨aG,9,none⟩=some ((rd_T102 aC aA).f6):=cI aD.out 9;have jS:wc.cell? ⟨aG,10,none⟩=some ((rd_T102 aC aA).f7):=cI aD.out 10;have mH:=bF aD.out 0;have mI:=bF aD.out 1;have mJ:=bF aD.out 2;have mK:=bF aD.out 3;have mL:=bF aD.out 4;have mM:=bF aD.out 5;have mN:=bF aD.out 6;have mO:=bF aD.out 7;have mP:=bF aD.out 8;have mQ:=bF aD.out 9;have jT:=bF aD.out 10;go_wp2
      go_roundg cU
      case measure=>have:=cP.out;have:=HJ47.out;omega
      case rel=>skip;exact ⟨(wS aA),(aK),(u809001),xE,H',⟨by have:=cP.out;have:=HJ47.out;omega⟩,⟨kr (Kd.R_mono aE.out (fun _ hk=>trivial))⟩,⟨bk aH.out⟩,⟨bk aI.out⟩,⟨bk aJ.out⟩,⟨bl HB.out⟩⟩
     rw [if_pos dJ] at H
     have gH:((rd_T102 aC aA).f0)=true:=dJ;clear dJ;obtain ⟨⟨eJ,eK,eL,eM,eN,eO,eP,eQ,eR,eS,eT⟩,hZ,H⟩:=hB H
     try dsimp only at H
     have qT:=aM hZ;clear hZ;obtain ⟨uN,H⟩:=gI H;obtain ⟨uO,H⟩:=gI H;obtain ⟨iA,dA⟩:∃ y_:List (S102),y_=(aK.set (aA:Int).toNat (⟨eJ,eK,(⟨eL,eM,eN,eO⟩:S25),eP,eQ,eR,eS,eT⟩:S102)):=⟨_,rfl⟩;replace H:(Z6.l0 cU bU (wS aA) aN aC aQ iA)=some (r1,r2):=by (rw [dA];with_reducible exact H)
     have iY:=aM dA;clear dA;have H':=aM H;clear H;have uP:=aW.out;have uQ:=aV.out;have uR:=bA.out;have uS:=aX.out;have uT:=bG.out;have uU:=bD.out;have mR:wc.cell? ⟨aG,0,none⟩=some ((rd_T102 aC aA).f0):=cI aD.out 0;have mS:wc.cell? ⟨aG,1,none⟩=some ((rd_T102 aC aA).f1):=cI aD.out 1;have mT:wc.cell? ⟨aG,2,none⟩=some ((rd_T102 aC aA).f2.f0):=cI aD.out 2;have mU:wc.cell? ⟨aG,3,none⟩=some ((rd_T102 aC aA).f2.f1):=cI aD.out 3;have mV:wc.cell? ⟨aG,4,none⟩=some ((rd_T102 aC aA).f2.f2):=cI aD.out 4;have mW:wc.cell? ⟨aG,5,none⟩=some ((rd_T102 aC aA).f2.f3):=cI aD.out 5;have mX:wc.cell? ⟨aG,6,none⟩=some ((rd_T102 aC aA).f3):=cI aD.out 6;have mY:wc.cell? ⟨aG,7,none⟩=some ((rd_T102 aC aA).f4):=cI aD.out 7;have mZ:wc.cell? ⟨aG,8,none⟩=some ((rd_T102 aC aA).f5):=cI aD.out 8;have nA:wc.cell? ⟨aG,9,none⟩=some ((rd_T102 aC aA).f6):=cI aD.out 9;have jU:wc.cell? ⟨aG,10,none⟩=some ((rd_T102 aC aA).f7):=cI aD.out 10;have nB:=bF aD.out 0;have nC:=bF aD.out 1;have nD:=bF aD.out 2;have nE:=bF aD.out 3;have nF:=bF aD.out 4;have nI:=bF aD.out 5;have nJ:=bF aD.out 6;have nK:=bF aD.out 7;have nN:=bF aD.out 8;have nO:=bF aD.out 9;have jV:=bF aD.out 10
     try go_wp2
     replace aE:=aM (Kd.R_drew aE.out);replace aH:=aM (blk_drew aH.out);replace aI:=aM (blk_drew aI.out);replace aJ:=aM (blk_drew aJ.out);replace aD:=aM (blk_drew aD.out);replace HB:=aM (below_drew1 HB.out);refine start_ (n:=8) (S:=fun w'=>cT2 w' bI (.int .i64 aQ) (u809001) (cS11 w' aG (.bool ((rd_T102 aC aA).f0)) (.bool ((rd_T102 aC aA).f1)) (.int .i64 ((rd_T102 aC aA).f2.f0)) (.int .i64 ((rd_T102 aC aA).f2.f1)) (.int .i64 ((rd_T102 aC aA).f2.f2)) (.int .i64 ((rd_T102 aC aA).f2.f3)) (.int .i64 ((rd_T102 aC aA).f3)) (.int .i64 ((rd_T102 aC aA).f4)) (.int .i64 ((rd_T102 aC aA).f5)) (.int .i64 ((rd_T102 aC aA).f6)) (.bool ((rd_T102 aC aA).f7)))) (ds:=[7]) (dn 8 0) (by kernel_rfl) rfl rfl ⟨cI aJ.out 0,cI aJ.out 1,cI aD.out 0,cI aD.out 1,cI aD.out 2,cI aD.out 3,cI aD.out 4,cI aD.out 5,cI aD.out 6,cI aD.out 7,cI aD.out 8,cI aD.out 9,cI aD.out 10⟩ (fun hHeld=>?_);refine with_tabW Z6.tab15 Z6.bits15 (fun HT_ HW_=>?_)
     generalize wc.drew=xK at aE aH aI aJ aD HB hHeld ⊢
     refine nY (N:=some 47) HT_ ?_;refine pZ 2 49 (bv 8 5) HT_ ?_;refine pZ 4 51 (bv 8 21) HT_ ?_;refine aZ 1 48 (bv 8 23) HT_ HW_ hHeld ?_;refine aZ 3 50 (bv 8 31) HT_ HW_ hHeld ?_;refine one_ (i:=5) (N:=some 52) (bv 8 63) rfl rfl (one_of HT_.out (by kernel_rfl)) (by decide) (fun K hK=>?_)
     refine goes_ Tryd.func102 (by kernel_rfl) rfl #[.agg #[((rd_T102 aC aA).f0),((rd_T102 aC aA).f1),((rd_T102 aC aA).f2.f0),((rd_T102 aC aA).f2.f1),((rd_T102 aC aA).f2.f2),((rd_T102 aC aA).f2.f3),((rd_T102 aC aA).f3),((rd_T102 aC aA).f4),((rd_T102 aC aA).f5),((rd_T102 aC aA).f6),((rd_T102 aC aA).f7)],.int .i64 2] (by rfl) rfl rfl (by (try simp only [List.map_toArray,List.map_cons,List.map_nil]);(simp only [gH];rfl)) ?_
     with_reducible refine (Z17.calls cU ((rd_T102 aC aA).f0) ((rd_T102 aC aA).f1) ((rd_T102 aC aA).f2.f0) ((rd_T102 aC aA).f2.f1) ((rd_T102 aC aA).f2.f2) ((rd_T102 aC aA).f2.f3) ((rd_T102 aC aA).f3) ((rd_T102 aC aA).f4) ((rd_T102 aC aA).f5) ((rd_T102 aC aA).f6) ((rd_T102 aC aA).f7) 2 eJ eK eL eM eN eO eP eQ eR eS eT _ qT.out).mono ?_
     rintro e xL ⟨rfl,hb⟩;refine ⟨_,rfl,?_⟩;replace aE:=rK aE hb;replace aH:=rB aH hb;replace aI:=rB aI hb;replace aJ:=rB aJ hb;replace aD:=rB aD hb;replace HB:=rS HB hb
     (try clear hb)
     have iB:0≤(aA:Int):=dT;have iC:(aA:Int)<((aK.length:Int):Int):=dT;obtain ⟨jW,jX,iD,iE,jY,vP,iF⟩:=Kd.R_form aE.out (by omega)
     (cases iD)
     have vQ:=aM iE;have vR:=aM iF;clear iE jY iF;obtain ⟨vS,iZ,iG,gJ,gK⟩:=Kd.R_elem aE.out z102 (aA:Int) iB iC;obtain rfl:=k102_openM iG;obtain ⟨qV,qW,qX,qY,qZ,rA,rC,rD,rE,rF,nP,rG,rH,rI,rJ,rL,rM,rN,rO,rQ,rR,nQ⟩:=eS102 (rd_T102 aK aA) gJ gK;clear iZ gJ gK iG;replace iB:=eq_true iB;replace iC:=eq_true iC;obtain ⟨vT,gM,iH,gO,jA⟩:=Kd.R_elem aE.out z102 (aA:Int) (dT) dT;obtain rfl:=k102_openM iH;have fK:=(Kd.R_seg aE.out (aA:Int) (dT) dT (seg:=[.bool eJ,.bool eK,.int .i64 eL,.int .i64 eM,.int .i64 eN,.int .i64 eO,.int .i64 eP,.int .i64 eQ,.int .i64 eR,.int .i64 eS,.bool eT]) (j:=0) gM gO (show 11≤11 from by decide) (x':=(⟨eJ,eK,(⟨eL,eM,eN,eO⟩:S25),eP,eQ,eR,eS,eT⟩:S102)) (k102_mkM _ _ _ _) (fun _ hk=>hk)).1
     rw [← iY.out] at fK
     have HQ95:=aM fK;clear gM gO jA iH fK;refine hK.out _ _ ⟨cI aJ.out 0,cI aJ.out 1,cI aD.out 0,cI aD.out 1,cI aD.out 2,cI aD.out 3,cI aD.out 4,cI aD.out 5,cI aD.out 6,cI aD.out 7,cI aD.out 8,cI aD.out 9,cI aD.out 10⟩ (fun hHeld=>?_)
     clear hK K;refine norm_ (a':=?_) ?_ ?_;rotate_left
     ·show Act.put _ (some 52) _=_
      simp only [Act.put,sA,sZ,sS,i64_w,i32_w]
      rfl
     refine pZ 6 53 (bv 8 127) HT_ ?_;refine last_ (i:=7) (N:=none) (bv 8 255) rfl rfl (one_of HT_.out (by kernel_rfl)) (by decide) (fun K hK=>?_)
     refine skip_ (w1:=?_) (by rfl) rfl ?_ ?_
     rotate_left
     ·go_simp
      rfl
     refine hK.out _ _ ?_;clear hK K;refine done_ (done_of HT_.out (by kernel_rfl)) ?_
     try go_wp2
     go_roundg cU
     case measure=>have:=cP.out;have:=HJ47.out;omega
     case rel=>skip;exact ⟨(wS aA),(iA),(.slice (some ⟨jW,0,none⟩) aK.length jX),xE,H',⟨by have:=cP.out;have:=HJ47.out;omega⟩,⟨kr (Kd.R_mono HQ95.out (fun _ hk=>trivial))⟩,⟨fR aE.out aH.out⟩,⟨fR aE.out aI.out⟩,⟨fR aE.out aJ.out⟩,⟨bl HB.out⟩⟩

end Go.Proofs.YtljbdchibfjbdaaDoor.PFnIns
