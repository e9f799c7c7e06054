/- A part of the proof of laws.FnIns. No condition beyond what its theorems say. -/
import Derived.Test.YtljbdchibfjbdaaDoorVFnInsPx21
import Derived.Test.YtljbdchibfjbdaaDoorVFnInsPx22
namespace Go.Proofs.YtljbdchibfjbdaaDoor.PFnIns
open Go.RowKit Go.Proofs.YtljbdchibfjbdaaDoorW.PrintWords Go.Proofs.YtljbdchibfjbdaaDoorW.PrintLast Go.Proofs.YtljbdchibfjbdaaDoorW.PrintMore
set_option linter.unusedVariables false
set_option linter.unusedSimpArgs false

mutual
def Z1.j0:Nat→List (S41)→Bool→Int→List (S102)→Int→Int→Int→Int→Int→Int→Int→Bool→Option (Int × (List (S102)) × (List (S41)))
 | 0,_,_,_,_,_,_,_,_,_,_,_,_=>none
 | k+1,x6,aW,aA,aC,aD,aE,aG,aH,aI,aJ,aK,aN=>if aW=true then ((Z46.f aA aC).bind fun aQ=>(some (aQ.1,aQ.2,x6))) else ((Z46.f aA aC).bind fun aT=>((Z5.f k aT.1 aT.2 aD aE aG aH aI aJ aK aN).bind fun aV=>(Z1.l0 k x6 0 aA aC aD aE aG aH aI aJ aK aN aV.1 aV.2)))
def Z1.l0:Nat→List (S41)→Int→Int→List (S102)→Int→Int→Int→Int→Int→Int→Int→Bool→Int→List (S102)→Option (Int × (List (S102)) × (List (S41)))
 | 0,_,_,_,_,_,_,_,_,_,_,_,_,_,_=>none
 | k+1,x6,x8,aT,aC,aD,aE,aG,aH,aI,aJ,aK,aN,aQ,aA=>if x8<(aC.length:Int) then (if 0≤x8 then (if x8<(aA.length:Int) then (if (((rd_T102 aA x8).f7) != ((rd_T102 aC x8).f7))=true then (if x6.length<2199023255552 then (Z1.l0 k (x6++[(⟨2,x8,(⟨0,0,0,0⟩:S25),0,(rd_T102 aA x8).f7⟩:S41)]) (wrap64 (x8+1)) aT aC aD aE aG aH aI aJ aK aN aQ aA) else (none)) else (Z1.l0 k x6 (wrap64 (x8+1)) aT aC aD aE aG aH aI aJ aK aN aQ aA)) else (none)) else (none)) else (Z1.l1 k x6 0 aD aE aG aH aI aJ aK aN aQ aA)
def Z1.l1:Nat→List (S41)→Int→Int→Int→Int→Int→Int→Int→Int→Bool→Int→List (S102)→Option (Int × (List (S102)) × (List (S41)))
 | 0,_,_,_,_,_,_,_,_,_,_,_,_=>none
 | k+1,x6,x9,aA,aD,aE,aG,aH,aI,aJ,aK,aN,aC=>if x9<(aC.length:Int) then (Z1.j3 k x6 x9 (aA == 2) aA aD aE aG aH aI aJ aK aN aC) else (Z1.j3 k x6 x9 false aA aD aE aG aH aI aJ aK aN aC)
def Z1.j3:Nat→List (S41)→Int→Bool→Int→Int→Int→Int→Int→Int→Int→Bool→Int→List (S102)→Option (Int × (List (S102)) × (List (S41)))
 | 0,_,_,_,_,_,_,_,_,_,_,_,_,_=>none
 | k+1,x6,x9,aV,aE,aG,aH,aI,aJ,aK,aN,aQ,aC,aA=>if aV=true then (if 0≤x9 then (if x9<(aA.length:Int) then (if ((rd_T102 aA x9).f5)=2 then ((Z26.f k aC aA x9).bind fun aD=>((Z65.f k aC aA).bind fun aT=>(if x6.length<2199023255552 then (Z1.l1 k (x6++[(⟨1,x9,(⟨aD.1,aD.2.1,aD.2.2.1,aD.2.2.2⟩:S25),aT,false⟩:S41)]) (wrap64 (x9+1)) aE aG aH aI aJ aK aN aQ aC aA) else (none)))) else (Z1.l1 k x6 (wrap64 (x9+1)) aE aG aH aI aJ aK aN aQ aC aA)) else (none)) else (none)) else (some (aC,aA,x6))
end
def Z1.f (k:Nat) (aD:Int) (aA:List (S102)) (aE aC aG aH aI aJ aK:Int) (aN:Bool):Option (Int × (List (S102)) × (List (S41))):=(some (([]:List (S41)):List (S41))).bind fun aQ=>((Z11.f k aD aA).bind fun aT=>(if aT=true then ((Z63.f aE aC aG aH aI aJ aK aN).bind fun aV=>(if aV=true then (Z1.j0 k aQ (decide (aC ≥ (aA.length:Int))) aD aA aE aC aG aH aI aJ aK aN) else (Z1.j0 k aQ true aD aA aE aC aG aH aI aJ aK aN))) else (Z1.j0 k aQ true aD aA aE aC aG aH aI aJ aK aN)))
theorem Z1.mono_l:∀ k,(∀ y0 y1 y2 y3 y4 y5 y6 y7 y8 y9 aA aC,LeO (Z1.j0 k y0 y1 y2 y3 y4 y5 y6 y7 y8 y9 aA aC) (Z1.j0 (k+1) y0 y1 y2 y3 y4 y5 y6 y7 y8 y9 aA aC))∧(∀ y0 y1 y2 y3 y4 y5 y6 y7 y8 y9 aA aC aD aE,LeO (Z1.l0 k y0 y1 y2 y3 y4 y5 y6 y7 y8 y9 aA aC aD aE) (Z1.l0 (k+1) y0 y1 y2 y3 y4 y5 y6 y7 y8 y9 aA aC aD aE))∧(∀ y0 y1 y2 y3 y4 y5 y6 y7 y8 y9 aA aC,LeO (Z1.l1 k y0 y1 y2 y3 y4 y5 y6 y7 y8 y9 aA aC) (Z1.l1 (k+1) y0 y1 y2 y3 y4 y5 y6 y7 y8 y9 aA aC))∧(∀ y0 y1 y2 y3 y4 y5 y6 y7 y8 y9 aA aC aD,LeO (Z1.j3 k y0 y1 y2 y3 y4 y5 y6 y7 y8 y9 aA aC aD) (Z1.j3 (k+1) y0 y1 y2 y3 y4 y5 y6 y7 y8 y9 aA aC aD))
 | 0=>by refine ⟨?_,?_,?_,?_⟩ <;> intros <;> intro r h <;> simp [Z1.j0,Z1.l0,Z1.l1,Z1.j3] at h
 | k+1=>by
  obtain ⟨ih0,ih1,ih2,ih3⟩:=Z1.mono_l k;refine ⟨?_,?_,?_,?_⟩
  ·intro y0 y1 y2 y3 y4 y5 y6 y7 y8 y9 aA aC
   unfold Z1.j0
   repeat' (with_reducible first|apply ih1|apply Z5.mono|exact lR _|refine lI ?_ ?_|refine lB ?_ fun _=>?_)
  ·intro y0 y1 y2 y3 y4 y5 y6 y7 y8 y9 aA aC aD aE
   unfold Z1.l0
   repeat' (with_reducible first|apply ih1|apply ih2|exact lR _|refine lI ?_ ?_)
  ·intro y0 y1 y2 y3 y4 y5 y6 y7 y8 y9 aA aC
   unfold Z1.l1
   repeat' (with_reducible first|apply ih3|refine lI ?_ ?_)
  ·intro y0 y1 y2 y3 y4 y5 y6 y7 y8 y9 aA aC aD
   unfold Z1.j3
   repeat' (with_reducible first|apply ih2|apply Z65.mono|apply Z26.mono|exact lR _|refine lI ?_ ?_|refine lB ?_ fun _=>?_)
theorem Z1.mono:∀ a0 a1 a2 a3 a4 a5 a6 a7 a8 a9 k,LeO (Z1.f k a0 a1 a2 a3 a4 a5 a6 a7 a8 a9) (Z1.f (k+1) a0 a1 a2 a3 a4 a5 a6 a7 a8 a9):=by
 intro a0 a1 a2 a3 a4 a5 a6 a7 a8 a9 k;obtain ⟨ih0,ih1,ih2,ih3⟩:=Z1.mono_l k;unfold Z1.f
 repeat' (with_reducible first|apply ih0|apply Z11.mono|exact lR _|refine lI ?_ ?_|refine lB ?_ fun _=>?_)
def Z1.T8:Bool × List (List Nat × List Nat):=(true,[([],[]),([0],[0]),([],[]),([1,2],[1,2]),([3],[3]),([4],[4]),([],[]),([6],[6]),([],[]),([7,8],[7,8]),([9],[9]),([10],[10]),([5,11],[5,11])])
def Z1.B8:List Nat:=[0,1,0,7,15,31,0,64,0,448,960,1984,4095]
theorem Z1.tab8:rtab .any (opsOf Tryd.f58 8)=Z1.T8:=by kernel_rfl
theorem Z1.bits8:waitsOk Z1.T8.2 Z1.B8=true:=by kernel_rfl
def Z1.T14:Bool × List (List Nat × List Nat):=(true,[([],[]),([],[]),([],[]),([],[]),([2,3],[2,3]),([],[]),([5,4],[5]),([1,4,6],[1,4,6]),([7],[7]),([0,8,6],[0,8]),([9,9,0,1,2,3,4,5,6,7,8,9],[0,9])])
def Z1.B14:List Nat:=[0,0,0,0,12,0,60,126,254,511,1023]
theorem Z1.tab14:rtab .any (opsOf Tryd.f58 14)=Z1.T14:=by kernel_rfl
theorem Z1.bits14:waitsOk Z1.T14.2 Z1.B14=true:=by kernel_rfl
set_option maxHeartbeats 60000000 in
set_option maxRecDepth 100000 in
theorem Z1.calls (k:Nat) (aV:Int) (cD:Option Addr) (bW:Nat) (aK:List (S102)) (bJ bH bK bL bM bN bO:Int) (bP:Bool) (r1:Int) (r2:List (S102)) (r3:List (S41)) (w:World) (hr0_1:Kd.C k102 w cD aK.length aK) (hc0_1:aK.length≤bW) (h:Z1.f k aV aK bJ bH bK bL bM bN bO bP=some (r1,r2,r3)) :
  Calls Tryd.prog 58 #[.agg #[aV,.slice cD aK.length bW],.agg #[bJ,bH,bK,bL,bM,bN,bO,bP]] w fun e w'=>∃ jE jF:Value,e=.returned (.tuple #[.agg #[r1,jE],jF])∧Kd.R k102 102 w' w.heap.size (fun _=>True) jE r2∧Kd.R k41 41 w' w.heap.size (fun _=>True) jF r3∧Below w.heap.size w w':=by
 have pR:=Tryd.underlying79;have pS:=Tryd.underlying27;have pT:=Tryd.underlying41;have dC:=aM hr0_1;have dZ:=aM hc0_1;clear hr0_1 hc0_1;have HB:=aM (Below.refl w.heap.size w);have H:((some (([]:List (S41)):List (S41))).bind fun dO=>((Z11.f k aV aK).bind fun gG=>(if gG=true then ((Z63.f bJ bH bK bL bM bN bO bP).bind fun gH=>(if gH=true then (Z1.j0 k dO (decide (bH ≥ (aK.length:Int))) aV aK bJ bH bK bL bM bN bO bP) else (Z1.j0 k dO true aV aK bJ bH bK bL bM bN bO bP))) else (Z1.j0 k dO true aV aK bJ bH bK bL bM bN bO bP))))=some (r1,r2,r3):=h
 clear h;obtain ⟨dO,gT,H⟩:=hS H;have gU:=aM gT;clear gT;have iC:=aM H;clear H;go_enter Tryd.func58,Tryd.ntmps58
 go_upto_region 2 with (first|((with_reducible refine gD (N:=2) rfl ?_);(try (refine gate_guard (by rfl) ?_;dsimp only));refine bE (N:=2) (cs:=#[aV,.slice cD aK.length bW]) (t:=79) ?_;intro bV hg w4 hbox hb;have aC:=aM (hbox);have lU:=gF hg HB;have lV:=gF hg HB;replace HB:=rS HB hb;clear hb hbox hg)|((with_reducible refine gD (N:=3) rfl ?_);(try (refine gate_guard (by rfl) ?_;dsimp only));refine bE (N:=3) (cs:=#[bJ,bH,bK,bL,bM,bN,bO,bP]) (t:=27) ?_;intro aT hg w5 hbox hb;have aA:=aM (hbox);have lW:=gF hg HB;have lX:=gF hg HB;have bX:=nM hg aC;have bY:=nH hg aC;replace aC:=rB aC hb;replace HB:=rS HB hb;clear hb hbox hg)|((with_reducible refine gD (N:=4) rfl ?_);(try (refine gate_guard (by rfl) ?_;dsimp only));refine bE (N:=4) (cs:=#[.int .i64 0,.slice none 0 0]) (t:=79) ?_;intro bQ hg w6 hbox hb;have aD:=aM (hbox);have lY:=gF hg HB;have lZ:=gF hg HB;have bZ:=nM hg aC;have cA:=nH hg aC;have cW:=nM hg aA;have cX:=nH hg aA;replace aC:=rB aC hb;replace aA:=rB aA hb;replace HB:=rS HB hb;clear hb hbox hg)|((with_reducible refine gD (N:=10) rfl ?_);(try (refine gate_guard (by rfl) ?_;dsimp only));refine Kd.R_lit k41 _ 41 ?hg (N:=10) ?hd (xs:=([]:List (S41))) (inner:=[]) (ok:=fun _=>True) (okp:=fun _=>True) ?hr ?hp (fun _ hk=>hk) trivial (Below.refl _ _) (Nat.le_refl _) (by simp) ?_;(case hd=>rfl);(case hg=>rfl);(case hr=>(go_simp;done));(case hp=>exact (Reps.none _ _));intro gJ w7 ho8 hb hg_ hnew_;clear hg_ hnew_;(rw [← gU.out] at ho8);have cG:=aM (Kd.R_lower ho8 (below_size (bl HB.out)));replace aC:=rB aC hb;replace aA:=rB aA hb;replace aD:=rB aD hb;replace HB:=rS HB hb;clear hb ho8))
 go_cut [26] (fun kC wc=>∃ (kq:Nat) (fA:Bool),kC=.bool fA∧Aside0 (Z1.j0 kq dO fA aV aK bJ bH bK bL bM bN bO bP=some (r1,r2,r3))∧Aside0 (kq≤k)∧Aside0 (Kd.R k41 41 wc w.heap.size (fun _=>True) gJ dO)∧Aside0 (wc.heap[bV]?=some (.cells #[aV,(.slice cD aK.length bW)] 79 (0,0)))∧Aside0 (wc.heap[aT]?=some (.cells #[bJ,bH,bK,bL,bM,bN,bO,bP] 27 (0,0)))∧Aside0 (wc.heap[bQ]?=some (.cells #[.int .i64 0,(.slice none 0 0)] 79 (0,0)))∧Aside0 (Below w.heap.size w wc))
 case first =>
  have H:=iC.out;clear iC;obtain ⟨gG,jG,H⟩:=hB H;have A9:=aM jG;clear jG
  by_cases eX:gG=true
  case neg =>
   replace eX:=Bool.eq_false_iff.mpr eX;subst eX;replace H:=hF H;have H':=aM H;clear H;have mA:=bX.out;have mB:=bY.out;have mC:=bZ.out;have mD:=cA.out;have mE:=cA2 aC.out;go_wp2_with (((with_reducible refine gC (f:=78) rfl ?_);refine goesL_ (some 12) rfl rfl Tryd.func78 (by kernel_rfl) rfl #[.agg #[aV,.slice cD aK.length bW]] rfl xR ?_;(with_reducible refine (Z11.calls k aV _ _ aK false _ ?side1 ?side2 A9.out).mono ?_);(case side1=>exact cM (cB dC.out HB.out));(case side2=>exact dZ.out);rintro e qH ⟨rfl,hb⟩;refine ⟨_,rfl,?_⟩;replace cG:=rK cG hb;replace aC:=rB aC hb;replace aA:=rB aA hb;replace aD:=rB aD hb;replace HB:=rS HB hb;(try clear hb)))
   go_meet
   case rel=>exact ⟨_,(true),xE,H',⟨by omega⟩,⟨kr cG.out⟩,⟨bk aC.out⟩,⟨bk aA.out⟩,⟨bk aD.out⟩,⟨bl HB.out⟩⟩
  subst eX;replace H:=hP H rfl;obtain ⟨gH,iD,H⟩:=hB H;have jH:=aM iD;clear iD
  by_cases eY:gH=true
  case pos =>
   subst eY;replace H:=hP H rfl;have H':=aM H;clear H;have mF:=bX.out;have mG:=bY.out;have mH:=bZ.out;have mI:=cA.out;have mJ:=cA2 aC.out;go_wp2_with (first|((with_reducible refine gC (f:=78) rfl ?_);refine goesL_ (some 12) rfl rfl Tryd.func78 (by kernel_rfl) rfl #[.agg #[aV,.slice cD aK.length bW]] rfl xR ?_;(with_reducible refine (Z11.calls k aV _ _ aK true _ ?side1 ?side2 A9.out).mono ?_);(case side1=>exact cM (cB dC.out HB.out));(case side2=>exact dZ.out);rintro e qI ⟨rfl,hb⟩;refine ⟨_,rfl,?_⟩;replace cG:=rK cG hb;replace aC:=rB aC hb;replace aA:=rB aA hb;replace aD:=rB aD hb;replace HB:=rS HB hb;(try clear hb);have mK:=cW.out;have mL:=cX.out;have mM:=cA8 aA.out)|(go_at_call 25;(with_reducible refine (Z63.calls bJ bH bK bL bM bN bO bP true _ jH.out).mono ?_);rintro e qJ ⟨rfl,hb⟩;replace cG:=rK cG hb;replace aC:=rB aC hb;replace aA:=rB aA hb;replace aD:=rB aD hb;replace HB:=rS HB hb;(try clear hb);have mN:=cA8 aA.out;have mO:=cA2 aC.out))
   go_meet
   case rel=>exact ⟨_,(decide (bH ≥ (aK.length:Int))),xE,H',⟨by omega⟩,⟨kr cG.out⟩,⟨bk aC.out⟩,⟨bk aA.out⟩,⟨bk aD.out⟩,⟨bl HB.out⟩⟩
  replace eY:=Bool.eq_false_iff.mpr eY;subst eY;replace H:=hF H;have H':=aM H;clear H;have mP:=bX.out;have mQ:=bY.out;have mR:=bZ.out;have mS:=cA.out;have mT:=cA2 aC.out;go_wp2_with (first|((with_reducible refine gC (f:=78) rfl ?_);refine goesL_ (some 12) rfl rfl Tryd.func78 (by kernel_rfl) rfl #[.agg #[aV,.slice cD aK.length bW]] rfl xR ?_;(with_reducible refine (Z11.calls k aV _ _ aK true _ ?side1 ?side2 A9.out).mono ?_);(case side1=>exact cM (cB dC.out HB.out));(case side2=>exact dZ.out);rintro e qM ⟨rfl,hb⟩;refine ⟨_,rfl,?_⟩;replace cG:=rK cG hb;replace aC:=rB aC hb;replace aA:=rB aA hb;replace aD:=rB aD hb;replace HB:=rS HB hb;(try clear hb);have mU:=cW.out;have mV:=cX.out;have mW:=cA8 aA.out)|(go_at_call 25;(with_reducible refine (Z63.calls bJ bH bK bL bM bN bO bP false _ jH.out).mono ?_);rintro e qN ⟨rfl,hb⟩;replace cG:=rK cG hb;replace aC:=rB aC hb;replace aA:=rB aA hb;replace aD:=rB aD hb;replace HB:=rS HB hb;(try clear hb)))
  go_meet
  case rel=>exact ⟨_,(true),xE,H',⟨by omega⟩,⟨kr cG.out⟩,⟨bk aC.out⟩,⟨bk aA.out⟩,⟨bk aD.out⟩,⟨bl HB.out⟩⟩
 case rest =>
  clear iC
  repeat first|clear c1|clear c2|clear p2|clear c3|clear c5|clear c7|clear eX|clear eY|clear iE|clear iF|clear iG|clear iH|clear iI|clear iJ|clear iK|clear iL
  obtain ⟨kq,fA,rfl,HA,HJ2,aH,aC,aA,aD,HB⟩:=hcut;cases kq with
  | zero=>exact absurd HA.out (by simp [Z1.j0])
  | succ gB =>
   have H:=HA.out;clear HA;simp only [Z1.j0] at H
   by_cases fC:fA=true
   case pos =>
    subst fC;replace H:=hP H rfl;obtain ⟨⟨fS,fT⟩,iM,H⟩:=hB H
    try dsimp only at H
    have kD:=aM iM;clear iM;simp only [Option.some.injEq,Prod.mk.injEq] at H;obtain ⟨rfl,rfl,rfl⟩:=H;have mX:=bX.out;have mY:=bY.out;have mZ:=bZ.out;have nA:=cA.out;have nB:=cA2 aC.out;go_wp2_with (((with_reducible refine gC (f:=79) rfl ?_);refine goesL_ (some 28) rfl rfl Tryd.func79 (by kernel_rfl) rfl #[.agg #[aV,.slice cD aK.length bW]] rfl xR ?_;(with_reducible refine (Z46.calls aV _ _ aK fS fT _ ?side1 ?side2 kD.out).mono ?_);(case side1=>exact cM (cB dC.out HB.out));(case side2=>exact dZ.out);rintro e qO ⟨pV,rfl,ho0,hb⟩;refine ⟨_,rfl,?_⟩;have gV:=aM (Kd.R_lower ho0 (below_size (bl HB.out)));replace aH:=rK aH hb;replace aC:=rB aC hb;replace aA:=rB aA hb;replace aD:=rB aD hb;replace HB:=rS HB hb;(repeat first|clear hb|clear ho0);have nC:=cX.out;have nD:=cW.out;have nE:=cA2 aD.out;obtain ⟨gK,gM,jO⟩:=Kd.R_slice gV.out;subst jO))
    refine bodyPost_ret (results_ct rfl _ _ bQ 79 #[fS,.slice gK fT.length gM] (0,0) _ rfl (bm aD.out) Tryd.underlying79 rfl (by kernel_rfl)) rfl ?_
    exact ⟨_,_,xW,kr (Kd.R_mono (rT2 gV.out aD.out (.int .i64 fS) (.slice gK fT.length gM)) (fun _ hk=>trivial)),kr (Kd.R_mono (rT2 aH.out aD.out (.int .i64 fS) (.slice gK fT.length gM)) (fun _ hk=>trivial)),bl HB.out⟩
   replace fC:=Bool.eq_false_iff.mpr fC;subst fC;replace H:=hF H;obtain ⟨⟨dP,cE⟩,iN,H⟩:=hB H
   try dsimp only at H
   have jI:=aM iN;clear iN;obtain ⟨⟨bU,aI⟩,iO,H⟩:=hB H
   try dsimp only at H
   have iP:=aM iO;clear iO;have H':=aM H;clear H
   try go_wp2
   replace aH:=aM (Kd.R_drew aH.out);replace aC:=aM (blk_drew aC.out);replace aA:=aM (blk_drew aA.out);replace aD:=aM (blk_drew aD.out);replace HB:=aM (below_drew1 HB.out);refine start_ (n:=6) (S:=fun w'=>cT2 w' bV (.int .i64 aV) (.slice cD aK.length bW) (cS8 w' aT (.int .i64 bJ) (.int .i64 bH) (.int .i64 bK) (.int .i64 bL) (.int .i64 bM) (.int .i64 bN) (.int .i64 bO) (.bool bP))) (ds:=[]) (dn 6 0) (by kernel_rfl) rfl rfl ⟨cI aC.out 0,cI aC.out 1,cI aA.out 0,cI aA.out 1,cI aA.out 2,cI aA.out 3,cI aA.out 4,cI aA.out 5,cI aA.out 6,cI aA.out 7⟩ (fun hHeld=>?_)
   generalize wc.drew=qP at aH aC aA aD HB hHeld ⊢
   refine take_ (i:=0) (N:=some 30) (v:=?_) (a':=?_) (bv 6 1) rfl rfl (by kernel_rfl) (fun _ _ _ h=>h) (Or.inl ⟨by rfl,?_⟩) hHeld ?_ ?_
   rotate_left
   ·rintro w' ⟨s0,s1,s2,s3,s4,s5,s6,s7,s8,s9⟩
    go_simp
    with_reducible rfl
   rotate_left
   ·simp only [Act.put,sA,sZ,sS,i64_w,i32_w]
    rfl
   refine take_ (i:=2) (N:=some 32) (v:=?_) (a':=?_) (bv 6 5) rfl rfl (by kernel_rfl) (fun _ _ _ h=>h) (Or.inl ⟨by rfl,?_⟩) hHeld ?_ ?_
   rotate_left
   ·rintro w' ⟨s0,s1,s2,s3,s4,s5,s6,s7,s8,s9⟩
    go_simp
    with_reducible rfl
   rotate_left
   ·simp only [Act.put,sA,sZ,sS,i64_w,i32_w]
    rfl
   refine join_ (σ:=Value × Value × Nat) 1 (bv 6 31) (fun s_=>[(31,.agg #[dP,s_.1]),(33,.agg #[bU,s_.2.1]),(7,.pointer (some ⟨s_.2.2,0,none⟩))]) (fun s_ w'=>(w'.cell? ⟨bV,0,none⟩=some aV∧w'.cell? ⟨bV,1,none⟩=some (.slice cD aK.length bW)∧w'.cell? ⟨aT,0,none⟩=some bJ∧w'.cell? ⟨aT,1,none⟩=some bH∧w'.cell? ⟨aT,2,none⟩=some bK∧w'.cell? ⟨aT,3,none⟩=some bL∧w'.cell? ⟨aT,4,none⟩=some bM∧w'.cell? ⟨aT,5,none⟩=some bN∧w'.cell? ⟨aT,6,none⟩=some bO∧w'.cell? ⟨aT,7,none⟩=some bP)∧(Kd.R k102 102 w' w.heap.size (fun _=>True) s_.2.1 aI)∧(Kd.R k41 41 w' w.heap.size (fun _=>True) gJ dO)∧(w'.heap[bV]?=some (.cells #[aV,.slice cD aK.length bW] 79 (0,0)))∧(w'.heap[aT]?=some (.cells #[bJ,bH,bK,bL,bM,bN,bO,bP] 27 (0,0)))∧(w'.heap[bQ]?=some (.cells #[.int .i64 0,.slice none 0 0] 79 (0,0)))∧(w'.heap[s_.2.2]?=some (.cells #[.int .i64 0,.slice none 0 0] 79 (0,0)))∧(w.heap.size≤s_.2.2)∧(w.heap.size≤s_.2.2)∧(bV≠s_.2.2)∧(s_.2.2≠bV)∧(aT≠s_.2.2)∧(s_.2.2≠aT)∧(bQ≠s_.2.2)∧(s_.2.2≠bQ)∧(Below w.heap.size w w')) ?_ ?_
   rotate_left
   ·intro hCont
    refine two_ (i:=1) (j:=4) (Ni:=some 31) (Nj:=some 7) (bv 6 7) (bv 6 21) rfl rfl rfl rfl (by kernel_rfl) (by decide) (by decide) (fun K hK=>?_) (fun K hK=>?_)
    ·skip
     refine goes_ Tryd.func79 (by kernel_rfl) rfl #[.agg #[aV,.slice cD aK.length bW]] (by rfl) rfl rfl xR ?_
     with_reducible refine (Z46.calls aV _ _ aK dP cE _ ?side1 ?side2 jI.out).mono ?_
     (case side1=>exact cM (cB dC.out HB.out))
     (case side2=>exact dZ.out)
     rintro e kE ⟨iQ,rfl,ho0,hb⟩;refine ⟨_,rfl,?_⟩;have aW:=aM (Kd.R_lower ho0 (below_size (bl HB.out)));replace aH:=rK aH hb;replace aC:=rB aC hb;replace aA:=rB aA hb;replace aD:=rB aD hb;replace HB:=rS HB hb
     (try clear hb)
     (try clear ho0)
     obtain ⟨fU,fV,iR⟩:=Kd.R_slice aW.out
     (subst iR)
     refine hK.out _ _ ⟨cI aC.out 0,cI aC.out 1,cI aA.out 0,cI aA.out 1,cI aA.out 2,cI aA.out 3,cI aA.out 4,cI aA.out 5,cI aA.out 6,cI aA.out 7⟩ (fun hHeld=>?_)
     clear hK K;refine norm_ (a':=?_) ?_ ?_;rotate_left
     ·show Act.put _ (some 31) _=_
      simp only [Act.put,sA,sZ,sS,i64_w,i32_w]
      rfl
     refine two_ (i:=3) (j:=4) (Ni:=some 33) (Nj:=some 7) (bv 6 15) (bv 6 23) rfl rfl rfl rfl (by kernel_rfl) (by decide) (by decide) (fun K hK=>?_) (fun K hK=>?_)
     ·skip
      refine goes_ Tryd.func80 (by kernel_rfl) rfl #[.agg #[dP,.slice fU cE.length fV],.agg #[bJ,bH,bK,bL,bM,bN,bO,bP]] (by rfl) rfl rfl xR ?_
      with_reducible refine (Z5.calls gB dP (fun k_=>some k_=(.slice fU cE.length fV:Value).ownBlock) (.slice fU cE.length fV) cE bJ bH bK bL bM bN bO bP bU aI w _ ?side1 ?side2 iP.out).mono ?_
      (case side1=>exact bl HB.out)
      (case side2=>exact Kd.R_tight rfl aW.out)
      rintro e qQ ⟨eF,rfl,ho0,hb,hkp⟩;refine ⟨_,rfl,?_⟩;have cV:=aM (Kd.R_mono (ok':=fun k_=>True) ho0 (fun k_ hk_=>trivial))
      replace aH:=aM (Kd.R_mono (ok':=fun k_=>True) (Kd.R_keptB ((Kd.R_apart' aH.out (Kd.R_typed aW.out) (by decide))) hkp (fun k_ hk_ hs_=>(hk_.2) hs_)) (fun k_ hk_=>trivial))
      replace aC:=aM (blk_kept (bk aC.out) hkp (fun hs_=>(fun e_=>(Kd.R_ne aW.out aC.out (by decide)) e_) hs_))
      replace aA:=aM (blk_kept (bk aA.out) hkp (fun hs_=>(fun e_=>(Kd.R_ne aW.out aA.out (by decide)) e_) hs_))
      replace aD:=aM (blk_kept (bk aD.out) hkp (fun hs_=>(fun e_=>(Kd.R_ne aW.out aD.out (by decide)) e_) hs_))
      replace HB:=aM (hb);clear aW
      (try clear hb)
      (try clear hkp)
      (try clear ho0)
      refine hK.out _ _ ⟨cI aC.out 0,cI aC.out 1,cI aA.out 0,cI aA.out 1,cI aA.out 2,cI aA.out 3,cI aA.out 4,cI aA.out 5,cI aA.out 6,cI aA.out 7⟩ (fun hHeld=>?_)
      clear hK K;refine norm_ (a':=?_) ?_ ?_;rotate_left
      ·show Act.put _ (some 33) _=_
       simp only [Act.put,sA,sZ,sS,i64_w,i32_w]
       rfl
      refine one_ (i:=4) (N:=some 7) (bv 6 31) rfl rfl (by kernel_rfl) (by decide) (fun K hK=>?_)
      refine box_step ?hg (N:=7) ?hd (cs:=#[.int .i64 0,.slice none 0 0]) (t:=79) ?hr ?_;(case hd=>rfl);(case hg=>rfl);(case hr=>(go_simp;done))
      intro bI hg jJ hbox hb;have aE:=aM (hbox);have eA:=gF hg HB;have eB:=gF hg HB;have aN:=nM hg aC;have aQ:=nH hg aC;have aX:=nM hg aA;have bA:=nH hg aA;have bD:=nM hg aD;have bG:=nH hg aD;replace aH:=rK aH hb;replace cV:=rK cV hb;replace aC:=rB aC hb;replace aA:=rB aA hb;replace aD:=rB aD hb;replace HB:=rS HB hb;clear hb hbox hg;refine hK.out _ _ ⟨cI aC.out 0,cI aC.out 1,cI aA.out 0,cI aA.out 1,cI aA.out 2,cI aA.out 3,cI aA.out 4,cI aA.out 5,cI aA.out 6,cI aA.out 7⟩ (fun hHeld=>?_)
      clear hK K;refine norm_ (a':=?_) ?_ ?_;rotate_left
      ·show Act.put _ (some 7) _=_
       simp only [Act.put,sA,sZ,sS,i64_w,i32_w]
       rfl
      exact norm_ (by simp only [putAll,Act.put,sA,sZ,sS]) (hCont (.slice fU cE.length fV,eF,bI) _ ⟨hHeld,(kr cV.out),(kr aH.out),(bk aC.out),(bk aA.out),(bk aD.out),(bk aE.out),eA.out,eB.out,aN.out,aQ.out,aX.out,bA.out,bD.out,bG.out,(bl HB.out)⟩)
     ·skip
      refine box_step ?hg (N:=7) ?hd (cs:=#[.int .i64 0,.slice none 0 0]) (t:=79) ?hr ?_;(case hd=>rfl);(case hg=>rfl);(case hr=>(go_simp;done))
      intro bI hg kG hbox hb;have aE:=aM (hbox);have eA:=gF hg HB;have eB:=gF hg HB;have aN:=nM hg aC;have aQ:=nH hg aC;have aX:=nM hg aA;have bA:=nH hg aA;have bD:=nM hg aD;have bG:=nH hg aD;replace aH:=rK aH hb;replace aW:=rK aW hb;replace aC:=rB aC hb;replace aA:=rB aA hb;replace aD:=rB aD hb;replace HB:=rS HB hb;clear hb hbox hg;obtain ⟨dQ,dR,fD⟩:=Kd.R_slice aW.out
      ((injection fD with f1_ f2_ f3_;have f4_:=f1_.symm;have f5_:=f3_.symm;clear f1_ f2_ f3_;subst f4_;subst f5_))
      refine hK.out _ _ ⟨cI aC.out 0,cI aC.out 1,cI aA.out 0,cI aA.out 1,cI aA.out 2,cI aA.out 3,cI aA.out 4,cI aA.out 5,cI aA.out 6,cI aA.out 7⟩ (fun hHeld=>?_)
      clear hK K;refine norm_ (a':=?_) ?_ ?_;rotate_left
      ·show Act.put _ (some 7) _=_
       simp only [Act.put,sA,sZ,sS,i64_w,i32_w]
       rfl
      refine one_ (i:=3) (N:=some 33) (bv 6 31) rfl rfl (by kernel_rfl) (by decide) (fun K hK=>?_)
      refine goes_ Tryd.func80 (by kernel_rfl) rfl #[.agg #[dP,.slice dQ cE.length dR],.agg #[bJ,bH,bK,bL,bM,bN,bO,bP]] (by rfl) rfl rfl xR ?_
      with_reducible refine (Z5.calls gB dP (fun k_=>some k_=(.slice dQ cE.length dR:Value).ownBlock) (.slice dQ cE.length dR) cE bJ bH bK bL bM bN bO bP bU aI w _ ?side1 ?side2 iP.out).mono ?_
      (case side1=>exact bl HB.out)
      (case side2=>exact Kd.R_tight rfl aW.out)
      rintro e jJ ⟨eF,rfl,ho0,hb,hkp⟩;refine ⟨_,rfl,?_⟩;have cV:=aM (Kd.R_mono (ok':=fun k_=>True) ho0 (fun k_ hk_=>trivial))
      replace aH:=aM (Kd.R_mono (ok':=fun k_=>True) (Kd.R_keptB ((Kd.R_apart' aH.out (Kd.R_typed aW.out) (by decide))) hkp (fun k_ hk_ hs_=>(hk_.2) hs_)) (fun k_ hk_=>trivial))
      replace aC:=aM (blk_kept (bk aC.out) hkp (fun hs_=>(fun e_=>(Kd.R_ne aW.out aC.out (by decide)) e_) hs_))
      replace aA:=aM (blk_kept (bk aA.out) hkp (fun hs_=>(fun e_=>(Kd.R_ne aW.out aA.out (by decide)) e_) hs_))
      replace aD:=aM (blk_kept (bk aD.out) hkp (fun hs_=>(fun e_=>(Kd.R_ne aW.out aD.out (by decide)) e_) hs_))
      replace aE:=aM (blk_kept (bk aE.out) hkp (fun hs_=>(fun e_=>(Kd.R_ne aW.out aE.out (by decide)) e_) hs_))
      replace HB:=aM (hb);clear aW
      (try clear hb)
      (try clear hkp)
      (try clear ho0)
      refine hK.out _ _ ⟨cI aC.out 0,cI aC.out 1,cI aA.out 0,cI aA.out 1,cI aA.out 2,cI aA.out 3,cI aA.out 4,cI aA.out 5,cI aA.out 6,cI aA.out 7⟩ (fun hHeld=>?_)
      clear hK K;refine norm_ (a':=?_) ?_ ?_;rotate_left
      ·show Act.put _ (some 33) _=_
       simp only [Act.put,sA,sZ,sS,i64_w,i32_w]
       rfl
      exact norm_ (by simp only [putAll,Act.put,sA,sZ,sS]) (hCont (.slice dQ cE.length dR,eF,bI) _ ⟨hHeld,(kr cV.out),(kr aH.out),(bk aC.out),(bk aA.out),(bk aD.out),(bk aE.out),eA.out,eB.out,aN.out,aQ.out,aX.out,bA.out,bD.out,bG.out,(bl HB.out)⟩)
    ·skip
     refine box_step ?hg (N:=7) ?hd (cs:=#[.int .i64 0,.slice none 0 0]) (t:=79) ?hr ?_;(case hd=>rfl);(case hg=>rfl);(case hr=>(go_simp;done))
     intro bI hg kE hbox hb;have aE:=aM (hbox);have eA:=gF hg HB;have eB:=gF hg HB;have aN:=nM hg aC;have aQ:=nH hg aC;have aX:=nM hg aA;have bA:=nH hg aA;have bD:=nM hg aD;have bG:=nH hg aD;replace aH:=rK aH hb;replace aC:=rB aC hb;replace aA:=rB aA hb;replace aD:=rB aD hb;replace HB:=rS HB hb;clear hb hbox hg;refine hK.out _ _ ⟨cI aC.out 0,cI aC.out 1,cI aA.out 0,cI aA.out 1,cI aA.out 2,cI aA.out 3,cI aA.out 4,cI aA.out 5,cI aA.out 6,cI aA.out 7⟩ (fun hHeld=>?_)
     clear hK K;refine norm_ (a':=?_) ?_ ?_;rotate_left
     ·show Act.put _ (some 7) _=_
      simp only [Act.put,sA,sZ,sS,i64_w,i32_w]
      rfl
     refine one_ (i:=1) (N:=some 31) (bv 6 23) rfl rfl (by kernel_rfl) (by decide) (fun K hK=>?_)
     refine goes_ Tryd.func79 (by kernel_rfl) rfl #[.agg #[aV,.slice cD aK.length bW]] (by rfl) rfl rfl xR ?_
     with_reducible refine (Z46.calls aV _ _ aK dP cE _ ?side1 ?side2 jI.out).mono ?_
     (case side1=>exact cM (cB dC.out HB.out))
     (case side2=>exact dZ.out)
     rintro e kG ⟨iQ,rfl,ho0,hb⟩;refine ⟨_,rfl,?_⟩;have aW:=aM (Kd.R_lower ho0 (below_size (bl HB.out)));replace aH:=rK aH hb;replace aC:=rB aC hb;replace aA:=rB aA hb;replace aD:=rB aD hb;replace aE:=rB aE hb;replace HB:=rS HB hb
     (try clear hb)
     (try clear ho0)
     obtain ⟨dQ,dR,fD⟩:=Kd.R_slice aW.out
     (subst fD)
     refine hK.out _ _ ⟨cI aC.out 0,cI aC.out 1,cI aA.out 0,cI aA.out 1,cI aA.out 2,cI aA.out 3,cI aA.out 4,cI aA.out 5,cI aA.out 6,cI aA.out 7⟩ (fun hHeld=>?_)
     clear hK K;refine norm_ (a':=?_) ?_ ?_;rotate_left
     ·show Act.put _ (some 31) _=_
      simp only [Act.put,sA,sZ,sS,i64_w,i32_w]
      rfl
     refine one_ (i:=3) (N:=some 33) (bv 6 31) rfl rfl (by kernel_rfl) (by decide) (fun K hK=>?_)
     refine goes_ Tryd.func80 (by kernel_rfl) rfl #[.agg #[dP,.slice dQ cE.length dR],.agg #[bJ,bH,bK,bL,bM,bN,bO,bP]] (by rfl) rfl rfl xR ?_
     with_reducible refine (Z5.calls gB dP (fun k_=>some k_=(.slice dQ cE.length dR:Value).ownBlock) (.slice dQ cE.length dR) cE bJ bH bK bL bM bN bO bP bU aI w _ ?side1 ?side2 iP.out).mono ?_
     (case side1=>exact bl HB.out)
     (case side2=>exact Kd.R_tight rfl aW.out)
     rintro e jJ ⟨eF,rfl,ho0,hb,hkp⟩;refine ⟨_,rfl,?_⟩;have cV:=aM (Kd.R_mono (ok':=fun k_=>True) ho0 (fun k_ hk_=>trivial))
     replace aH:=aM (Kd.R_mono (ok':=fun k_=>True) (Kd.R_keptB ((Kd.R_apart' aH.out (Kd.R_typed aW.out) (by decide))) hkp (fun k_ hk_ hs_=>(hk_.2) hs_)) (fun k_ hk_=>trivial))
     replace aC:=aM (blk_kept (bk aC.out) hkp (fun hs_=>(fun e_=>(Kd.R_ne aW.out aC.out (by decide)) e_) hs_))
     replace aA:=aM (blk_kept (bk aA.out) hkp (fun hs_=>(fun e_=>(Kd.R_ne aW.out aA.out (by decide)) e_) hs_))
     replace aD:=aM (blk_kept (bk aD.out) hkp (fun hs_=>(fun e_=>(Kd.R_ne aW.out aD.out (by decide)) e_) hs_))
     replace aE:=aM (blk_kept (bk aE.out) hkp (fun hs_=>(fun e_=>(Kd.R_ne aW.out aE.out (by decide)) e_) hs_))
     replace HB:=aM (hb);clear aW
     (try clear hb)
     (try clear hkp)
     (try clear ho0)
     refine hK.out _ _ ⟨cI aC.out 0,cI aC.out 1,cI aA.out 0,cI aA.out 1,cI aA.out 2,cI aA.out 3,cI aA.out 4,cI aA.out 5,cI aA.out 6,cI aA.out 7⟩ (fun hHeld=>?_)
     clear hK K;refine norm_ (a':=?_) ?_ ?_;rotate_left
     ·show Act.put _ (some 33) _=_
      simp only [Act.put,sA,sZ,sS,i64_w,i32_w]
      rfl
     exact norm_ (by simp only [putAll,Act.put,sA,sZ,sS]) (hCont (.slice dQ cE.length dR,eF,bI) _ ⟨hHeld,(kr cV.out),(kr aH.out),(bk aC.out),(bk aA.out),(bk aD.out),(bk aE.out),eA.out,eB.out,aN.out,aQ.out,aX.out,bA.out,bD.out,bG.out,(bl HB.out)⟩)
   rintro ⟨iQ,eF,bI⟩ cY ⟨hS_,h0_,h1_,h2_,h3_,h4_,h5_,h6_,h7_,h8_,h9_,h10_,h11_,h12_,h13_,h14_⟩;have cV:Aside0 (Kd.R k102 102 cY w.heap.size (fun _=>True) eF aI):=⟨h0_⟩
   have aE:Aside0 (cY.heap[bI]?=some (.cells #[.int .i64 0,.slice none 0 0] 79 (0,0))):=⟨h5_⟩;have eA:Aside0 (w.heap.size≤bI):=⟨h6_⟩;have eB:Aside0 (w.heap.size≤bI):=⟨h7_⟩;have aN:Aside0 (bV≠bI):=⟨h8_⟩;have aQ:Aside0 (bI≠bV):=⟨h9_⟩;have aX:Aside0 (aT≠bI):=⟨h10_⟩;have bA:Aside0 (bI≠aT):=⟨h11_⟩;have bD:Aside0 (bQ≠bI):=⟨h12_⟩;have bG:Aside0 (bI≠bQ):=⟨h13_⟩;replace aH:Aside0 (Kd.R k41 41 cY w.heap.size (fun _=>True) gJ dO):=⟨h1_⟩
   replace aC:Aside0 (cY.heap[bV]?=some (.cells #[aV,.slice cD aK.length bW] 79 (0,0))):=⟨h2_⟩;replace aA:Aside0 (cY.heap[aT]?=some (.cells #[bJ,bH,bK,bL,bM,bN,bO,bP] 27 (0,0))):=⟨h3_⟩;replace aD:Aside0 (cY.heap[bQ]?=some (.cells #[.int .i64 0,.slice none 0 0] 79 (0,0))):=⟨h4_⟩;replace HB:Aside0 (Below w.heap.size w cY):=⟨h14_⟩;clear h0_ h1_ h2_ h3_ h4_ h5_ h6_ h7_ h8_ h9_ h10_ h11_ h12_ h13_ h14_;have hHeld:cY.cell? ⟨bV,0,none⟩=some aV∧cY.cell? ⟨bV,1,none⟩=some (.slice cD aK.length bW)∧cY.cell? ⟨aT,0,none⟩=some bJ∧cY.cell? ⟨aT,1,none⟩=some bH∧cY.cell? ⟨aT,2,none⟩=some bK∧cY.cell? ⟨aT,3,none⟩=some bL∧cY.cell? ⟨aT,4,none⟩=some bM∧cY.cell? ⟨aT,5,none⟩=some bN∧cY.cell? ⟨aT,6,none⟩=some bO∧cY.cell? ⟨aT,7,none⟩=some bP:=hS_;obtain ⟨dA,cU,iS⟩:=Kd.R_slice cV.out
   (subst iS)
   refine norm_ (a':=?_) ?_ ?_;rotate_left
   ·simp only [putAll,Act.put,sA,sZ,sS]
    rfl
   refine one_ (i:=5) (N:=none) (bv 6 63) rfl rfl (by kernel_rfl) (by decide) (fun K hK=>?_)
   have pW:=cI aE.out 0;have hfs50:=bF aE.out 0;have hns50_0:=aN.out;have hns50_1:=aX.out;have hns50_2:=bD.out;have hms50_0:=aQ.out;have hms50_1:=bA.out;have hms50_2:=bG.out;have pX:=cI aE.out 1;have hfs52:=bF aE.out 1;have hns52_0:=aN.out;have hns52_1:=aX.out;have hns52_2:=bD.out;have hms52_0:=aQ.out;have hms52_1:=bA.out;have hms52_2:=bG.out;refine skip_ (w1:=?_) (by rfl) rfl ?_ ?_
   rotate_left
   ·go_simp
    rfl
   refine hK.out _ _ ⟨(cm (hHeld.1)),(cm (hHeld.2.1)),(cm (hHeld.2.2.1)),(cm (hHeld.2.2.2.1)),(cm (hHeld.2.2.2.2.1)),(cm (hHeld.2.2.2.2.2.1)),(cm (hHeld.2.2.2.2.2.2.1)),(cm (hHeld.2.2.2.2.2.2.2.1)),(cm (hHeld.2.2.2.2.2.2.2.2.1)),(cm (hHeld.2.2.2.2.2.2.2.2.2))⟩ (fun hHeld=>?_)
   clear hK K;refine done_ (by kernel_rfl) ?_
   try go_wp2
   go_loopg [6,8] gB (fun kq v6 v8 w'=>∃ (dY:List (S41)) (aJ:Int),v8=.int .i64 aJ∧Aside0 (Z1.l0 kq dY aJ aV aK bJ bH bK bL bM bN bO bP bU aI=some (r1,r2,r3))∧Aside0 (kq≤gB)∧Aside0 (Kd.R k41 41 w' w.heap.size (fun _=>True) v6 dY)∧Aside0 (Kd.R k102 102 w' w.heap.size (fun _=>True) (.slice dA aI.length cU) aI)∧Aside0 (w'.heap[bV]?=some (.cells #[aV,(.slice cD aK.length bW)] 79 (0,0)))∧Aside0 (w'.heap[aT]?=some (.cells #[bJ,bH,bK,bL,bM,bN,bO,bP] 27 (0,0)))∧Aside0 (w'.heap[bQ]?=some (.cells #[.int .i64 0,(.slice none 0 0)] 79 (0,0)))∧Aside0 (w'.heap[bI]?=some (.cells #[bU,(.slice dA aI.length cU)] 79 (0,0)))∧Aside0 (Below w.heap.size w w'))
   case atStart=>exact ⟨(dO),(0),xE,H',⟨Nat.le_refl _⟩,⟨kr (Kd.R_mono (rT2 aH.out aE.out (.int .i64 bU) (.slice dA aI.length cU)) (fun _ hk=>trivial))⟩,⟨kr (Kd.R_mono (rT2 cV.out aE.out (.int .i64 bU) (.slice dA aI.length cU)) (fun _ hk=>trivial))⟩,⟨fm aC.out⟩,⟨fm aA.out⟩,⟨fm aD.out⟩,⟨bm aE.out⟩,⟨bl HB.out⟩⟩
   case round =>
    clear H'
    repeat first|clear c1|clear c2|clear p2|clear c3|clear c5|clear c7|clear c8|clear eX|clear eY|clear iE|clear iF|clear iG|clear iH|clear iI|clear iJ|clear iK|clear iL|clear fC|clear jK|clear jL|clear jM|clear p2
    obtain ⟨dY,aJ,rfl,HA,eE,aH,aG,aC,aA,aD,aE,HB⟩:=hrel;cases gk with
    | zero=>exact absurd HA.out (by simp [Z1.l0])
    | succ k2 =>
     have H:=HA.out;clear HA;simp only [Z1.l0] at H
     by_cases eZ:aJ<(aK.length:Int)
     case pos =>
      rw [if_pos eZ] at H
      have fW:=decide_eq_true eZ;clear eZ;obtain ⟨gW,H⟩:=gI H;obtain ⟨gX,H⟩:=gI H
      by_cases dD:(((rd_T102 aI aJ).f7) != ((rd_T102 aK aJ).f7))=true
      case neg =>
       rw [if_neg dD] at H
       have fX:(((rd_T102 aI aJ).f7) != ((rd_T102 aK aJ).f7))=false:=by simpa using dD
       (try (have fY:decide (((rd_T102 aI aJ).f7)=((rd_T102 aK aJ).f7))=true:=by simpa using dD))
       (try (have gA:(((rd_T102 aI aJ).f7) == ((rd_T102 aK aJ).f7))=true:=by simpa using dD))
       clear dD;have H':=aM H;clear H;have nF:=bX.out;have nI:=bY.out;have nJ:=bZ.out;have nK:=cA.out;have nN:=aN.out;have nO:=aQ.out;have nP:=cA2 aC.out
       try go_wp2
       replace aH:=aM (Kd.R_drew aH.out);replace aG:=aM (Kd.R_drew aG.out);replace aC:=aM (blk_drew aC.out);replace aA:=aM (blk_drew aA.out);replace aD:=aM (blk_drew aD.out);replace aE:=aM (blk_drew aE.out);replace HB:=aM (below_drew1 HB.out);have dS:0≤(aJ:Int):=dT;have dU:aJ<(aI.length:Int):=dT;obtain ⟨eC,gO,dE,dF,dG,dH,dI,dJ,dK,dL,dM,dN,dB⟩:=at_T102 (Kd.R_reads' aG.out).2.2 aJ dS dU;cases gO
       replace dS:=eq_true dS;replace dU:=eq_true dU;have dV:0≤(aJ:Int):=dT;have dW:aJ<(aK.length:Int):=dT;obtain ⟨eJ,gP,cH,cK,cL,cN,cO,cP,cQ,cR,cS,cT,cC⟩:=at_T102 dC.out aJ dV dW;have eG:=cC;have eN:=cT;have eO:=cS;have eP:=cR;have eQ:=cQ;have eR:=cP;have eS:=cO;have eT:=cN;have eU:=cL;have eV:=cK;have eW:=cH;cases gP
       replace cH:=xB HB cH;replace cK:=xB HB cK;replace cL:=xB HB cL;replace cN:=xB HB cN;replace cO:=xB HB cO;replace cP:=xB HB cP;replace cQ:=xB HB cQ;replace cR:=xB HB cR;replace cS:=xB HB cS;replace cT:=xB HB cT;replace cC:=xB HB cC;replace dV:=eq_true dV;replace dW:=eq_true dW;refine start_ (n:=13) (S:=fun w'=>cT2 w' bI (.int .i64 bU) (.slice (some eC) aI.length cU) (cT2 w' bV (.int .i64 aV) (.slice (some eJ) aK.length bW) (cF102 w' eC (aJ).toNat (rd_T102 aI aJ) (cE102 w' eJ (aJ).toNat (rd_T102 aK aJ))))) (ds:=[]) (dn 13 0) (by kernel_rfl) rfl rfl ⟨cI aE.out 0,cI aE.out 1,cI aC.out 0,cI aC.out 1,dE,dF,dG,dH,dI,dJ,dK,dL,dM,dN,dB,(xB HB eW :),(xB HB eV :),(xB HB eU :),(xB HB eT :),(xB HB eS :),(xB HB eR :),(xB HB eQ :),(xB HB eP :),(xB HB eO :),(xB HB eN :),(xB HB eG :)⟩ (fun hHeld=>?_);refine with_tabW Z1.tab8 Z1.bits8 (fun HT_ HW_=>?_)
       generalize wr.drew=qS at aH aG aC aA aD aE HB dE dF dB dG dH dI dJ dK dL dM dN cH cK cC cL cN cO cP cQ cR cS cT hHeld ⊢
       refine nY (N:=some 41) HT_ ?_;refine pZ 2 43 (bv 13 5) HT_ ?_;refine pZ 6 47 (bv 13 69) HT_ ?_;refine pZ 8 49 (bv 13 325) HT_ ?_;refine aZ 1 42 (bv 13 327) HT_ HW_ hHeld ?_;refine pZ 3 44 (bv 13 335) HT_ ?_;refine pZ 4 45 (bv 13 351) HT_ ?_;refine aZ 5 46 (bv 13 383) HT_ HW_ hHeld ?_;refine aZ 7 48 (bv 13 511) HT_ HW_ hHeld ?_;refine pZ 9 50 (bv 13 1023) HT_ ?_;refine pZ 10 51 (bv 13 2047) HT_ ?_;refine aZ 11 52 (bv 13 4095) HT_ HW_ hHeld ?_;refine pZ 12 53 (bv 13 8191) HT_ ?_;refine done_ (done_of HT_.out (by kernel_rfl)) ?_
       try go_wp2
       go_roundg k2
       case measure=>have:=HJ2.out;have:=eE.out;omega
       case rel=>exact ⟨(dY),(wS aJ),xE,H',⟨by have:=HJ2.out;have:=eE.out;omega⟩,⟨kr aH.out⟩,⟨kr aG.out⟩,⟨bk aC.out⟩,⟨bk aA.out⟩,⟨bk aD.out⟩,⟨bk aE.out⟩,⟨bl HB.out⟩⟩
      rw [if_pos dD] at H
      have fX:(((rd_T102 aI aJ).f7) != ((rd_T102 aK aJ).f7))=true:=dD
      (try (have fY:decide (((rd_T102 aI aJ).f7)=((rd_T102 aK aJ).f7))=false:=by simpa using dD))
      (try (have gA:(((rd_T102 aI aJ).f7) == ((rd_T102 aK aJ).f7))=false:=by simpa using dD))
      (try (have nQ:¬ (((rd_T102 aI aJ).f7)=((rd_T102 aK aJ).f7)):=by simpa using dD))
      clear dD
      by_cases fP:dY.length<2199023255552
      case neg =>
       rw [if_neg fP] at H
       exact absurd H (by simp)
      rw [if_pos fP] at H
      have LMc57:=aM fP;clear fP;obtain ⟨iT,eK⟩:∃ y_:List (S41),y_=(dY++[(⟨2,aJ,(⟨0,0,0,0⟩:S25),0,(rd_T102 aI aJ).f7⟩:S41)]):=⟨_,rfl⟩;replace H:(Z1.l0 k2 iT (wS aJ) aV aK bJ bH bK bL bM bN bO bP bU aI)=some (r1,r2,r3):=by (rw [eK];with_reducible exact H)
      have iX:=aM eK;clear eK;have H':=aM H;clear H;have nR:=bX.out;have nS:=bY.out;have nT:=bZ.out;have nV:=cA.out;have nZ:=aN.out;have oA:=aQ.out;have oB:=cA2 aC.out
      try go_wp2
      replace aH:=aM (Kd.R_drew aH.out);replace aG:=aM (Kd.R_drew aG.out);replace aC:=aM (blk_drew aC.out);replace aA:=aM (blk_drew aA.out);replace aD:=aM (blk_drew aD.out);replace aE:=aM (blk_drew aE.out);replace HB:=aM (below_drew1 HB.out);have dS:0≤(aJ:Int):=dT;have dU:aJ<(aI.length:Int):=dT;obtain ⟨eC,gO,dE,dF,dG,dH,dI,dJ,dK,dL,dM,dN,dB⟩:=at_T102 (Kd.R_reads' aG.out).2.2 aJ dS dU;cases gO
      replace dS:=eq_true dS;replace dU:=eq_true dU;have dV:0≤(aJ:Int):=dT;have dW:aJ<(aK.length:Int):=dT;obtain ⟨eJ,gP,cH,cK,cL,cN,cO,cP,cQ,cR,cS,cT,cC⟩:=at_T102 dC.out aJ dV dW;have eG:=cC;have eN:=cT;have eO:=cS;have eP:=cR;have eQ:=cQ;have eR:=cP;have eS:=cO;have eT:=cN;have eU:=cL;have eV:=cK;have eW:=cH;cases gP
      replace cH:=xB HB cH;replace cK:=xB HB cK;replace cL:=xB HB cL;replace cN:=xB HB cN;replace cO:=xB HB cO;replace cP:=xB HB cP;replace cQ:=xB HB cQ;replace cR:=xB HB cR;replace cS:=xB HB cS;replace cT:=xB HB cT;replace cC:=xB HB cC;replace dV:=eq_true dV;replace dW:=eq_true dW;refine start_ (n:=13) (S:=fun w'=>cT2 w' bI (.int .i64 bU) (.slice (some eC) aI.length cU) (cT2 w' bV (.int .i64 aV) (.slice (some eJ) aK.length bW) (cF102 w' eC (aJ).toNat (rd_T102 aI aJ) (cE102 w' eJ (aJ).toNat (rd_T102 aK aJ))))) (ds:=[]) (dn 13 0) (by kernel_rfl) rfl rfl ⟨cI aE.out 0,cI aE.out 1,cI aC.out 0,cI aC.out 1,dE,dF,dG,dH,dI,dJ,dK,dL,dM,dN,dB,(xB HB eW :),(xB HB eV :),(xB HB eU :),(xB HB eT :),(xB HB eS :),(xB HB eR :),(xB HB eQ :),(xB HB eP :),(xB HB eO :),(xB HB eN :),(xB HB eG :)⟩ (fun hHeld=>?_);refine with_tabW Z1.tab8 Z1.bits8 (fun HT_ HW_=>?_)
      generalize wr.drew=qT at aH aG aC aA aD aE HB dE dF dB dG dH dI dJ dK dL dM dN cH cK cC cL cN cO cP cQ cR cS cT hHeld ⊢
      refine nY (N:=some 41) HT_ ?_;refine pZ 2 43 (bv 13 5) HT_ ?_;refine pZ 6 47 (bv 13 69) HT_ ?_;refine pZ 8 49 (bv 13 325) HT_ ?_;refine aZ 1 42 (bv 13 327) HT_ HW_ hHeld ?_;refine pZ 3 44 (bv 13 335) HT_ ?_;refine pZ 4 45 (bv 13 351) HT_ ?_;refine aZ 5 46 (bv 13 383) HT_ HW_ hHeld ?_;refine aZ 7 48 (bv 13 511) HT_ HW_ hHeld ?_;refine pZ 9 50 (bv 13 1023) HT_ ?_;refine pZ 10 51 (bv 13 2047) HT_ ?_;refine aZ 11 52 (bv 13 4095) HT_ HW_ hHeld ?_;refine pZ 12 53 (bv 13 8191) HT_ ?_;refine done_ (done_of HT_.out (by kernel_rfl)) ?_
      have oC:=bA.out;have oD:=aX.out;have oE:=bG.out;have oF:=bD.out;have oG:=cA2 aE.out;have fE:0≤(aJ:Int):=dT;have fF:aJ<(aI.length:Int):=dT;obtain ⟨iY,jP,jR,jS,jT,jU,jV,jW,jX,jY,jZ,kA,jQ⟩:=at_T102 (Kd.R_reads' aG.out).2.2 aJ fE fF;obtain rfl:eC=iY:=(by injection jP)
      replace fE:=eq_true fE;replace fF:=eq_true fF
      try go_wp2_with (((with_reducible refine gate_builtin (b:=.append) (xs:=#[.tmp 54,.tmp 63]) rfl ?_);(try (refine gate_guard (by rfl) ?_;dsimp only));at_builtin;refine Kd.R_append k41 (w0:=w) w.heap.size rfl (.tmp 54) (.tmp 63) 80 41 (.agg #[(.int .i64 0),(.int .i64 0),(.int .i64 0),(.int .i64 0),(.int .i64 0),(.int .i64 0),(.int .i64 0),(.bool false)]) 64 rfl Tryd.underlying80 info41 rfl (by decide) (by omega) u6 dY (⟨2,aJ,(⟨0,0,0,0⟩:S25),0,(rd_T102 aI aJ).f7⟩:S41) [.int .i64 2,.int .i64 aJ,.int .i64 0,.int .i64 0,.int .i64 0,.int .i64 0,.int .i64 0,.bool ((rd_T102 aI aJ).f7)] (fun _=>True) (fun _=>False) rfl rfl ?aP (fun _ hk=>hk.elim) ?aF ?aO ?aB ?aS ?aL ?_;(case aP=>exact k41_mkM _ _ _ (⟨2,aJ,(⟨0,0,0,0⟩:S25),0,(rd_T102 aI aJ).f7⟩:S41));(case aB=>exact (bl HB.out));(case aF=>exact (fun _ _=>trivial));(case aO=>exact (kr aH.out));(case aS=>exact (below_size (bl HB.out)));(case aL=>have:=LMc57.out;omega);intro qA qV ho hb hg hat;rw [← iX.out] at ho;have iZ:=aM (ho);replace aG:=aM (Kd.R_over' (kr aG.out) (Kd.R_typed (kr aH.out)) (by decide) hg);replace aC:=aM (blk_grown (bk aC.out) hg (Kd.R_ne aH.out aC.out (by decide)));replace aA:=aM (blk_grown (bk aA.out) hg (Kd.R_ne aH.out aA.out (by decide)));replace aD:=aM (blk_grown (bk aD.out) hg (Kd.R_ne aH.out aD.out (by decide)));replace aE:=aM (blk_grown (bk aE.out) hg (Kd.R_ne aH.out aE.out (by decide)));replace HB:=aM (hb);clear aH;clear ho hb hg hat))
      go_roundg k2
      case measure=>have:=HJ2.out;have:=eE.out;omega
      case rel=>exact ⟨(iT),(wS aJ),xE,H',⟨by have:=HJ2.out;have:=eE.out;omega⟩,⟨kr iZ.out⟩,⟨kr aG.out⟩,⟨bk aC.out⟩,⟨bk aA.out⟩,⟨bk aD.out⟩,⟨bk aE.out⟩,⟨bl HB.out⟩⟩
     rw [if_neg eZ] at H
     have fW:=decide_eq_false eZ;clear eZ;have H':=aM H;clear H;have oH:=bX.out;have oI:=bY.out;have oJ:=bZ.out;have oK:=cA.out;have oL:=aN.out;have oM:=aQ.out;have oO:=cA2 aC.out;go_wp2
     go_loopg [6,9] k2 (fun kq v6 v9 w'=>∃ (dX:List (S41)) (bT:Int),v9=.int .i64 bT∧Aside0 (Z1.l1 kq dX bT bJ bH bK bL bM bN bO bP bU aI=some (r1,r2,r3))∧Aside0 (kq≤k2)∧Aside0 (Kd.R k41 41 w' w.heap.size (fun _=>True) v6 dX)∧Aside0 (Kd.R k102 102 w' w.heap.size (fun _=>True) (.slice dA aI.length cU) aI)∧Aside0 (w'.heap[bV]?=some (.cells #[aV,(.slice cD aK.length bW)] 79 (0,0)))∧Aside0 (w'.heap[aT]?=some (.cells #[bJ,bH,bK,bL,bM,bN,bO,bP] 27 (0,0)))∧Aside0 (w'.heap[bQ]?=some (.cells #[.int .i64 0,(.slice none 0 0)] 79 (0,0)))∧Aside0 (w'.heap[bI]?=some (.cells #[bU,(.slice dA aI.length cU)] 79 (0,0)))∧Aside0 (Below w.heap.size w w'))
     case atStart=>exact ⟨(dY),(0),xE,H',⟨Nat.le_refl _⟩,⟨kr aH.out⟩,⟨kr aG.out⟩,⟨bk aC.out⟩,⟨bk aA.out⟩,⟨bk aD.out⟩,⟨bk aE.out⟩,⟨bl HB.out⟩⟩
     case round =>
      clear H'
      repeat clear fW
      obtain ⟨dX,bT,rfl,HA,fQ,aH,aG,aC,aA,aD,aE,HB⟩:=hrel;cases gk with
      | zero=>exact absurd HA.out (by simp [Z1.l1])
      | succ k3 =>
       have H:=HA.out;clear HA;simp only [Z1.l1] at H;have gQ:=aM H;clear H;go_upto_region 11 with (fail)
       go_cut [74] (fun kU wc=>∃ (kq:Nat) (eL:Bool),kU=.bool eL∧Aside0 (Z1.j3 kq dX bT eL bJ bH bK bL bM bN bO bP bU aI=some (r1,r2,r3))∧Aside0 (kq≤k3)∧Aside0 (Kd.R k41 41 wc w.heap.size (fun _=>True) u6 dX)∧Aside0 (Kd.R k102 102 wc w.heap.size (fun _=>True) (.slice dA aI.length cU) aI)∧Aside0 (wc.heap[bV]?=some (.cells #[aV,(.slice cD aK.length bW)] 79 (0,0)))∧Aside0 (wc.heap[aT]?=some (.cells #[bJ,bH,bK,bL,bM,bN,bO,bP] 27 (0,0)))∧Aside0 (wc.heap[bQ]?=some (.cells #[.int .i64 0,(.slice none 0 0)] 79 (0,0)))∧Aside0 (wc.heap[bI]?=some (.cells #[bU,(.slice dA aI.length cU)] 79 (0,0)))∧Aside0 (Below w.heap.size w wc))
       case first =>
        have H:=gQ.out;clear gQ
        by_cases fG:bT<(aI.length:Int)
        case neg =>
         rw [if_neg fG] at H
         have eD:=decide_eq_false fG;clear fG
         (skip)
         have H':=aM H;clear H;have oP:=aQ.out;have oQ:=aN.out;have oR:=bA.out;have oS:=aX.out;have oT:=bG.out;have oU:=bD.out;have oV:=cA2 aE.out;go_wp2
         go_meet
         case rel=>exact ⟨_,(false),xE,H',⟨by have:=HJ2.out;have:=eE.out;have:=fQ.out;omega⟩,⟨kr aH.out⟩,⟨kr aG.out⟩,⟨bk aC.out⟩,⟨bk aA.out⟩,⟨bk aD.out⟩,⟨bk aE.out⟩,⟨bl HB.out⟩⟩
        rw [if_pos fG] at H
        have eD:=decide_eq_true fG;clear fG
        (skip)
        have H':=aM H;clear H;have oW:=aQ.out;have oX:=aN.out;have oY:=bA.out;have oZ:=aX.out;have pA:=bG.out;have pB:=bD.out;have pC:=cA2 aE.out;have pD:=bY.out;have pE:=bX.out;have pF:=cW.out;have pG:=cX.out;have pH:=cA8 aA.out;go_wp2
        go_meet
        case rel=>exact ⟨_,((bJ == 2)),xE,H',⟨by have:=HJ2.out;have:=eE.out;have:=fQ.out;omega⟩,⟨kr aH.out⟩,⟨kr aG.out⟩,⟨bk aC.out⟩,⟨bk aA.out⟩,⟨bk aD.out⟩,⟨bk aE.out⟩,⟨bl HB.out⟩⟩
       case rest =>
        clear gQ
        repeat first|clear c1|clear c2|clear p2|clear c3|clear c5|clear c6|clear p6|clear c7|clear c8|clear p9|clear q9|clear eX|clear eY|clear iE|clear iF|clear iG|clear iH|clear iI|clear iJ|clear iK|clear iL|clear fC|clear jK|clear jL|clear jM|clear eZ|clear fW|clear kH|clear gW|clear kI|clear gX|clear dD|clear fX|clear fY|clear gA|clear fP|clear kJ|clear kK|clear kL|clear kM|clear kN|clear jN|clear kO|clear kP|clear kQ|clear kR|clear kS|clear kT|clear fG|clear eD|clear qW|clear qX|clear qY|clear qZ|clear rA|clear rC|clear rD|clear rE|clear p2|clear p6|clear jN|clear p9|clear dS|clear dV|clear fE|clear q9|clear dU|clear dW|clear fF
        obtain ⟨kq,eL,rfl,HA,HJ75,aH,aG,aC,aA,aD,aE,HB⟩:=hcut;cases kq with
        | zero=>exact absurd HA.out (by simp [Z1.j3])
        | succ fH =>
         have H:=HA.out;clear HA;simp only [Z1.j3] at H
         by_cases gY:eL=true
         case neg =>
          replace gY:=Bool.eq_false_iff.mpr gY;subst gY;replace H:=hF H;simp only [Option.some.injEq,Prod.mk.injEq] at H;obtain ⟨rfl,rfl,rfl⟩:=H;have kV:=aQ.out;have kW:=aN.out;have kX:=bA.out;have kY:=aX.out;have kZ:=bG.out;have lA:=bD.out;have lC:=cA2 aE.out;have lD:=cA.out;have lE:=bZ.out;have lF:=cX.out;have lG:=cW.out;have lH:=cA2 aD.out;go_wp2
          refine bodyPost_ret (results_ct rfl _ _ bQ 79 #[bU,.slice dA aI.length cU] (0,0) _ rfl (bm aD.out) Tryd.underlying79 rfl (by kernel_rfl)) rfl ?_
          exact ⟨_,_,xW,kr (Kd.R_mono (rT2 aG.out aD.out (.int .i64 bU) (.slice dA aI.length cU)) (fun _ hk=>trivial)),kr (Kd.R_mono (rT2 aH.out aD.out (.int .i64 bU) (.slice dA aI.length cU)) (fun _ hk=>trivial)),bl HB.out⟩
         subst gY;replace H:=hP H rfl;obtain ⟨pI,H⟩:=gI H;obtain ⟨pJ,H⟩:=gI H
         by_cases fI:((rd_T102 aI bT).f5)=2
         case neg =>
          rw [if_neg fI] at H
          have jA:(((rd_T102 aI bT).f5) == 2)=false:=beq_eq_false_iff_ne.mpr fI;have jB:(((rd_T102 aI bT).f5) != 2)=true:=bne_iff_ne.mpr fI;have H':=aM H;clear H;have lJ:=aQ.out;have lK:=aN.out;have lL:=bA.out;have lM:=aX.out;have lO:=bG.out;have lP:=bD.out;have lQ:=cA2 aE.out;have eH:0≤(bT:Int):=dT;have eI:bT<(aI.length:Int):=dT;obtain ⟨fB,gR,hD,hH,hJ,hO,hU,hX,hY,hZ,iA,iB,gS⟩:=at_T102 (Kd.R_reads' aG.out).2.2 bT eH eI;cases gR
          replace eH:=eq_true eH;replace eI:=eq_true eI;go_wp2
          go_roundg fH
          case measure=>have:=HJ2.out;have:=eE.out;have:=fQ.out;have:=HJ75.out;omega
          case rel=>exact ⟨(dX),(wS bT),xE,H',⟨by have:=HJ2.out;have:=eE.out;have:=fQ.out;have:=HJ75.out;omega⟩,⟨kr aH.out⟩,⟨kr aG.out⟩,⟨bk aC.out⟩,⟨bk aA.out⟩,⟨bk aD.out⟩,⟨bk aE.out⟩,⟨bl HB.out⟩⟩
         rw [if_pos fI] at H
         have jA:(((rd_T102 aI bT).f5) == 2)=true:=beq_iff_eq.mpr fI;have jB:(((rd_T102 aI bT).f5) != 2)=false:=bne_eq_false_iff_eq.mpr fI;clear fI;obtain ⟨⟨fK,fL,fM,fN⟩,iU,H⟩:=hB H
         try dsimp only at H
         have lS:=aM iU;clear iU;obtain ⟨fO,iV,H⟩:=hB H;have lT:=aM iV;clear iV
         by_cases gZ:dX.length<2199023255552
         case neg =>
          rw [if_neg gZ] at H
          exact absurd H (by simp)
         rw [if_pos gZ] at H
         have LMc95:=aM gZ;clear gZ;obtain ⟨iW,eM⟩:∃ y_:List (S41),y_=(dX++[(⟨1,bT,(⟨fK,fL,fM,fN⟩:S25),fO,false⟩:S41)]):=⟨_,rfl⟩;replace H:(Z1.l1 fH iW (wS bT) bJ bH bK bL bM bN bO bP bU aI)=some (r1,r2,r3):=by (rw [eM];with_reducible exact H)
         have jC:=aM eM;clear eM;have H':=aM H;clear H;have pK:=aQ.out;have pL:=aN.out;have pM:=bA.out;have pN:=aX.out;have pO:=bG.out;have pP:=bD.out;have pQ:=cA2 aE.out;have eH:0≤(bT:Int):=dT;have eI:bT<(aI.length:Int):=dT;obtain ⟨fB,gR,hD,hH,hJ,hO,hU,hX,hY,hZ,iA,iB,gS⟩:=at_T102 (Kd.R_reads' aG.out).2.2 bT eH eI;cases gR
         replace eH:=eq_true eH;replace eI:=eq_true eI
         try go_wp2
         replace aH:=aM (Kd.R_drew aH.out);replace aG:=aM (Kd.R_drew aG.out);replace aC:=aM (blk_drew aC.out);replace aA:=aM (blk_drew aA.out);replace aD:=aM (blk_drew aD.out);replace aE:=aM (blk_drew aE.out);replace HB:=aM (below_drew1 HB.out);refine start_ (n:=11) (S:=fun w'=>cS2 w' bI (.int .i64 bU) (.slice (some fB) aI.length cU)) (ds:=[]) (dn 11 0) (by kernel_rfl) rfl rfl ⟨cI aE.out 0,cI aE.out 1⟩ (fun hHeld=>?_);refine with_tabW Z1.tab14 Z1.bits14 (fun HT_ HW_=>?_)
         generalize wc.drew=qC at aH aG aC aA aD aE HB hHeld ⊢
         refine nY (N:=some 84) HT_ ?_;refine nY (N:=some 85) HT_ ?_;refine pZ 3 87 (bv 11 11) HT_ ?_;refine aZ 2 86 (bv 11 15) HT_ HW_ hHeld ?_;refine aZ 5 89 (bv 11 47) HT_ HW_ hHeld ?_;refine one_ (i:=4) (N:=some 88) (bv 11 63) rfl rfl (one_of HT_.out (by kernel_rfl)) (by decide) (fun K hK=>?_)
         refine goes_ Tryd.func81 (by kernel_rfl) rfl #[.agg #[bU,.slice (some fB) aI.length cU],bT] (by rfl) rfl rfl xR ?_
         with_reducible refine (Z26.calls fH bU _ _ aI bT fK fL fM fN _ ?side1 ?side2 lS.out).mono ?_
         (case side1=>exact cM ((Kd.R_reads' aG.out).2.2))
         (case side2=>exact (Kd.R_reads' aG.out).2.1)
         rintro e qD ⟨rfl,hb⟩;refine ⟨_,rfl,?_⟩;replace aH:=rK aH hb;replace aG:=rK aG hb;replace aC:=rB aC hb;replace aA:=rB aA hb;replace aD:=rB aD hb;replace aE:=rB aE hb;replace HB:=rS HB hb
         (try clear hb)
         refine hK.out _ _ ⟨cI aE.out 0,cI aE.out 1⟩ (fun hHeld=>?_)
         clear hK K;refine norm_ (a':=?_) ?_ ?_;rotate_left
         ·show Act.put _ (some 88) _=_
          simp only [Act.put,sA,sZ,sS,i64_w,i32_w]
          rfl
         refine one_ (i:=6) (N:=some 90) (bv 11 127) rfl rfl (one_of HT_.out (by kernel_rfl)) (by decide) (fun K hK=>?_)
         refine goes_ Tryd.func82 (by kernel_rfl) rfl #[.agg #[bU,.slice (some fB) aI.length cU]] (by rfl) rfl rfl xR ?_
         with_reducible refine (Z65.calls fH bU _ _ aI fO _ ?side1 ?side2 lT.out).mono ?_
         (case side1=>exact cM ((Kd.R_reads' aG.out).2.2))
         (case side2=>exact (Kd.R_reads' aG.out).2.1)
         rintro e qE ⟨rfl,hb⟩;refine ⟨_,rfl,?_⟩;replace aH:=rK aH hb;replace aG:=rK aG hb;replace aC:=rB aC hb;replace aA:=rB aA hb;replace aD:=rB aD hb;replace aE:=rB aE hb;replace HB:=rS HB hb
         (try clear hb)
         refine hK.out _ _ ⟨cI aE.out 0,cI aE.out 1⟩ (fun hHeld=>?_)
         clear hK K;refine norm_ (a':=?_) ?_ ?_;rotate_left
         ·show Act.put _ (some 90) _=_
          simp only [Act.put,sA,sZ,sS,i64_w,i32_w]
          rfl
         refine pZ 7 91 (bv 11 255) HT_ ?_;refine one_ (i:=8) (N:=some 92) (bv 11 511) rfl rfl (one_of HT_.out (by kernel_rfl)) (by decide) (fun K hK=>?_)
         refine value_ (w1:=?_) (v:=?_) (by rfl) rfl ?_ ?_
         rotate_left 2
         ·go_simp
          constructor
          ·rfl
          ·rfl
         refine hK.out _ _ ⟨(bC (blk_alloc aE.out _) 0).trans rfl,(bC (blk_alloc aE.out _) 1).trans rfl⟩ (fun hHeld=>?_)
         clear hK K;refine norm_ (a':=?_) ?_ ?_;rotate_left
         ·show Act.put _ (some 92) _=_
          simp only [Act.put,sA,sZ,sS,i64_w,i32_w]
          rfl
         refine one_ (i:=9) (N:=some 93) (bv 11 1023) rfl rfl (one_of HT_.out (by kernel_rfl)) (by decide) (fun K hK=>?_)
         refine Kd.R_append_step k41 (w0:=w) w.heap.size (by rfl) (.tmp 84) (.tmp 92) 80 41 (.agg #[(.int .i64 0),(.int .i64 0),(.int .i64 0),(.int .i64 0),(.int .i64 0),(.int .i64 0),(.int .i64 0),(.bool false)]) 64 rfl Tryd.underlying80 info41 rfl (by decide) (by omega) u6 dX (⟨1,bT,(⟨fK,fL,fM,fN⟩:S25),fO,false⟩:S41) [.int .i64 1,.int .i64 bT,.int .i64 fK,.int .i64 fL,.int .i64 fM,.int .i64 fN,.int .i64 fO,.bool false] (fun _=>True) (fun _=>False) rfl rfl ?aP (fun _ hk=>hk.elim) ?aF ?aO ?aB ?aS ?aL ?_
         (case aP=>exact k41_mkM _ _ _ (⟨1,bT,(⟨fK,fL,fM,fN⟩:S25),fO,false⟩:S41))
         (case aB=>exact (bl HB.out))
         (case aF=>exact (fun _ _=>trivial))
         (case aO=>exact (kr aH.out))
         (case aS=>exact (below_size (bl HB.out)))
         (case aL=>have:=LMc95.out;omega)
         intro qF qG ho hb hg hat;rw [← jC.out] at ho
         have jD:=aM (ho);replace aG:=aM (Kd.R_over' (kr aG.out) (Kd.R_typed (kr aH.out)) (by decide) hg)
         replace aC:=aM (blk_grown (bk aC.out) hg (Kd.R_ne aH.out aC.out (by decide)))
         replace aA:=aM (blk_grown (bk aA.out) hg (Kd.R_ne aH.out aA.out (by decide)))
         replace aD:=aM (blk_grown (bk aD.out) hg (Kd.R_ne aH.out aD.out (by decide)))
         replace aE:=aM (blk_grown (bk aE.out) hg (Kd.R_ne aH.out aE.out (by decide)))
         replace HB:=aM (hb);clear aH;clear ho hb hg hat;refine hK.out _ _ ⟨cI aE.out 0,cI aE.out 1⟩ (fun hHeld=>?_)
         clear hK K;refine norm_ (a':=?_) ?_ ?_;rotate_left
         ·show Act.put _ (some 93) _=_
          simp only [Act.put,sA,sZ,sS,i64_w,i32_w]
          rfl
         refine pZ 10 6 (bv 11 2047) HT_ ?_;refine done_ (done_of HT_.out (by kernel_rfl)) ?_
         try go_wp2
         go_roundg fH
         case measure=>have:=HJ2.out;have:=eE.out;have:=fQ.out;have:=HJ75.out;omega
         case rel=>exact ⟨(iW),(wS bT),xE,H',⟨by have:=HJ2.out;have:=eE.out;have:=fQ.out;have:=HJ75.out;omega⟩,⟨kr jD.out⟩,⟨kr aG.out⟩,⟨bk aC.out⟩,⟨bk aA.out⟩,⟨bk aD.out⟩,⟨bk aE.out⟩,⟨bl HB.out⟩⟩

end Go.Proofs.YtljbdchibfjbdaaDoor.PFnIns
