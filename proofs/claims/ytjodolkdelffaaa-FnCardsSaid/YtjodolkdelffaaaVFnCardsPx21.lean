/- A part of the proof of laws.FnCards. No condition beyond what its theorems say. -/
import Derived.Test.YtjodolkdelffaaaVFnCardsPx4
import Derived.Test.YtjodolkdelffaaaVFnCardsPx18
import Derived.Test.YtjodolkdelffaaaVFnCardsPx20
namespace Go.Proofs.Ytjodolkdelffaaa.PFnCards
open Go.RowKit Go.Proofs.YtjodolkdelffaaaW.PrintWords Go.Proofs.YtjodolkdelffaaaW.PrintLast Go.Proofs.YtjodolkdelffaaaW.PrintMore
set_option linter.unusedVariables false
set_option linter.unusedSimpArgs false

mutual
def Z1.j0:Nat→Int→List (S46)→Bool→List Bool→List (S42)→List (S72)→Int→Int→Int→List Int→List Bool→List (S42)→List (S72)→Option (List Bool × (List (S42)) × (List (S72)) × (List (S46)))
 | 0,_,_,_,_,_,_,_,_,_,_,_,_,_=>none
 | k+1,x1,x9,aV,aI,aC,aH,aK,aN,aQ,aT,aD,aE,aG=>if aV=true then (some (aD,aE,aG,x9)) else (if 0≤x1 then (if x1<(aC.length:Int) then ((Z29.f k ((rd_T42 aC x1).f0) ((rd_T42 aC x1).f1) aK aN aQ aT).bind fun aA=>(if aA.2.2.2.2=true then ((Z30.f k aH aA.1 aA.2.2.1).bind fun aJ=>(if aJ.2=true then (Z1.j1 k x1 x9 aJ.1 (aA.1 != 0) aI aC aH aD aE aG aA.1 aA.2.1 aA.2.2.1 aA.2.2.2.1) else (Z1.j1 k x1 x9 aJ.1 false aI aC aH aD aE aG aA.1 aA.2.1 aA.2.2.1 aA.2.2.2.1))) else (some (aD,aE,aG,x9)))) else (none)) else (none))
def Z1.j1:Nat→Int→List (S46)→Int→Bool→List Bool→List (S42)→List (S72)→List Bool→List (S42)→List (S72)→Int→Int→Int→List Int→Option (List Bool × (List (S42)) × (List (S72)) × (List (S46)))
 | 0,_,_,_,_,_,_,_,_,_,_,_,_,_,_=>none
 | k+1,x1,x9,aT,aV,aE,aG,aA,aH,aI,aQ,aJ,aC,aD,aK=>(Z4.f k aA aC aD x1).bind fun aN=>(Z1.l0 k x1 x9 aT aV 0 aE aG aA aH aI aN aJ aC aD aK)
def Z1.l0:Nat→Int→List (S46)→Int→Bool→Int→List Bool→List (S42)→List (S72)→List Bool→List (S42)→List (S72)→Int→Int→Int→List Int→Option (List Bool × (List (S42)) × (List (S72)) × (List (S46)))
 | 0,_,_,_,_,_,_,_,_,_,_,_,_,_,_,_=>none
 | k+1,x1,x9,aT,aV,aQ,aA,aG,aH,aC,aD,aE,aI,aJ,aK,aN=>if aQ<(aA.length:Int) then (if aQ=x1 then (Z1.j3 k x1 x9 aT aV aQ true aA aG aH aC aD aE aI aJ aK aN) else (if 0≤aQ then (if rdOf false aA aQ=true then (if aV=true then (Z1.j3 k x1 x9 aT aV aQ (aQ != aT) aA aG aH aC aD aE aI aJ aK aN) else (Z1.j3 k x1 x9 aT aV aQ false aA aG aH aC aD aE aI aJ aK aN)) else (Z1.j3 k x1 x9 aT aV aQ true aA aG aH aC aD aE aI aJ aK aN)) else (none))) else (some (aC,aD,aE,x9))
def Z1.j3:Nat→Int→List (S46)→Int→Bool→Int→Bool→List Bool→List (S42)→List (S72)→List Bool→List (S42)→List (S72)→Int→Int→Int→List Int→Option (List Bool × (List (S42)) × (List (S72)) × (List (S46)))
 | 0,_,_,_,_,_,_,_,_,_,_,_,_,_,_,_,_=>none
 | k+1,x1,x9,aV,aW,aT,aX,aI,aA,aJ,aK,aN,aQ,aC,aD,aE,aG=>if aX=true then (Z1.l0 k x1 x9 aV aW (wrap64 (aT+1)) aI aA aJ aK aN aQ aC aD aE aG) else (if 0≤aT then (if aT<(aA.length:Int) then ((Z28.f k ((rd_T42 aA aT).f0) ((rd_T42 aA aT).f1) aC aD aE aG).bind fun aH=>(if aH.2.2.2.2=true then (if x9.length<2513169434916 then (Z1.l0 k x1 (x9++[(⟨aT,(⟨aH.1,aH.2.1,aH.2.2.1,aH.2.2.2.1⟩:S30)⟩:S46)]) aV aW (wrap64 (aT+1)) aI aA aJ aK aN aQ aC aD aE aG) else (none)) else (Z1.l0 k x1 x9 aV aW (wrap64 (aT+1)) aI aA aJ aK aN aQ aC aD aE aG))) else (none)) else (none))
end
def Z1.f (k:Nat) (aC:List Bool) (aD:List (S42)) (aE:List (S72)) (a1 aG aH aI:Int) (aJ:List Int):Option (List Bool × (List (S42)) × (List (S72)) × (List (S46))):=(Z12.f k aC aD aE).bind fun aA=>((some (([]:List (S46)):List (S46))).bind fun aK=>((Z13.f k aC aD aE).bind fun aN=>(if aN=true then ((Z5.f a1 0 (wrap64 ((aC.length:Int) - 1))).bind fun aQ=>(if aQ=true then (if 0≤a1 then (if a1<(aC.length:Int) then (Z1.j0 k a1 aK (!(rdOf false aC a1)) aC aD aE aG aH aI aJ aA.1 aA.2.1 aA.2.2) else (none)) else (none)) else (Z1.j0 k a1 aK true aC aD aE aG aH aI aJ aA.1 aA.2.1 aA.2.2))) else (Z1.j0 k a1 aK true aC aD aE aG aH aI aJ aA.1 aA.2.1 aA.2.2))))
theorem Z1.mono_l:∀ k,(∀ y0 y1 y2 y3 y4 y5 y6 y7 y8 y9 aA aC aD,LeO (Z1.j0 k y0 y1 y2 y3 y4 y5 y6 y7 y8 y9 aA aC aD) (Z1.j0 (k+1) y0 y1 y2 y3 y4 y5 y6 y7 y8 y9 aA aC aD))∧(∀ y0 y1 y2 y3 y4 y5 y6 y7 y8 y9 aA aC aD aE,LeO (Z1.j1 k y0 y1 y2 y3 y4 y5 y6 y7 y8 y9 aA aC aD aE) (Z1.j1 (k+1) y0 y1 y2 y3 y4 y5 y6 y7 y8 y9 aA aC aD aE))∧(∀ y0 y1 y2 y3 y4 y5 y6 y7 y8 y9 aA aC aD aE aG,LeO (Z1.l0 k y0 y1 y2 y3 y4 y5 y6 y7 y8 y9 aA aC aD aE aG) (Z1.l0 (k+1) y0 y1 y2 y3 y4 y5 y6 y7 y8 y9 aA aC aD aE aG))∧(∀ y0 y1 y2 y3 y4 y5 y6 y7 y8 y9 aA aC aD aE aG aH,LeO (Z1.j3 k y0 y1 y2 y3 y4 y5 y6 y7 y8 y9 aA aC aD aE aG aH) (Z1.j3 (k+1) y0 y1 y2 y3 y4 y5 y6 y7 y8 y9 aA aC aD aE aG aH))
 | 0=>by refine ⟨?_,?_,?_,?_⟩ <;> intros <;> intro r h <;> simp [Z1.j0,Z1.j1,Z1.l0,Z1.j3] at h
 | k+1=>by
  obtain ⟨ih0,ih1,ih2,ih3⟩:=Z1.mono_l k;refine ⟨?_,?_,?_,?_⟩
  ·intro y0 y1 y2 y3 y4 y5 y6 y7 y8 y9 aA aC aD
   unfold Z1.j0
   repeat' (with_reducible first|apply ih1|apply Z29.mono|apply Z30.mono|exact lR _|refine lI ?_ ?_|refine lB ?_ fun _=>?_)
  ·intro y0 y1 y2 y3 y4 y5 y6 y7 y8 y9 aA aC aD aE
   unfold Z1.j1
   repeat' (with_reducible first|apply ih2|apply Z4.mono|refine lB ?_ fun _=>?_)
  ·intro y0 y1 y2 y3 y4 y5 y6 y7 y8 y9 aA aC aD aE aG
   unfold Z1.l0
   repeat' (with_reducible first|apply ih3|exact lR _|refine lI ?_ ?_)
  ·intro y0 y1 y2 y3 y4 y5 y6 y7 y8 y9 aA aC aD aE aG aH
   unfold Z1.j3
   repeat' (with_reducible first|apply ih2|apply Z28.mono|exact lR _|refine lI ?_ ?_|refine lB ?_ fun _=>?_)
theorem Z1.mono:∀ a0 a1 a2 a3 a4 a5 a6 a7 k,LeO (Z1.f k a0 a1 a2 a3 a4 a5 a6 a7) (Z1.f (k+1) a0 a1 a2 a3 a4 a5 a6 a7):=by
 intro a0 a1 a2 a3 a4 a5 a6 a7 k;obtain ⟨ih0,ih1,ih2,ih3⟩:=Z1.mono_l k;unfold Z1.f
 repeat' (with_reducible first|apply ih0|apply Z13.mono|apply Z12.mono|exact lR _|refine lI ?_ ?_|refine lB ?_ fun _=>?_)
def Z1.T5:Bool × List (List Nat × List Nat):=(true,[([],[]),([0],[0]),([],[]),([1,2],[1,2]),([3],[3]),([],[]),([4,5],[4,5]),([6],[6]),([7],[7]),([7],[7]),([],[]),([10,8,6,0,1,2,3,4,5,6,7,8,10],[8,10]),([9,11,0,1,2,3,4,5,6,7,8,9,10,11],[9])])
def Z1.B5:List Nat:=[0,1,0,7,15,0,63,127,255,255,0,1535,4095]
theorem Z1.tab5:rtab .any (opsOf Try.f8 5)=Z1.T5:=by kernel_rfl
theorem Z1.bits5:waitsOk Z1.T5.2 Z1.B5=true:=by kernel_rfl
def Z1.T15:Bool × List (List Nat × List Nat):=(true,[([],[]),([0],[0]),([],[]),([1,2],[1,2]),([3],[3]),([],[]),([4,5],[4,5]),([6],[6]),([7],[7]),([7],[7]),([],[]),([10,8,6,0,1,2,3,4,5,6,7,8,10],[8,10]),([9,11,0,1,2,3,4,5,6,7,8,9,10,11],[9])])
def Z1.B15:List Nat:=[0,1,0,7,15,0,63,127,255,255,0,1535,4095]
theorem Z1.tab15:rtab .any (opsOf Try.f8 15)=Z1.T15:=by kernel_rfl
theorem Z1.bits15:waitsOk Z1.T15.2 Z1.B15=true:=by kernel_rfl
set_option maxHeartbeats 60000000 in
set_option maxRecDepth 100000 in
theorem Z1.calls (k:Nat) (dJ:Option Addr) (dK:Nat) (bJ:List Bool) (gG:Option Addr) (dL:Nat) (aQ:List (S42)) (dA:Option Addr) (dB:Nat) (bP:List (S72)) (a1 dC dD dE:Int) (dZ:Option Addr) (eA:Nat) (cX:List Int) (r1:List Bool) (r2:List (S42)) (r3:List (S72)) (r4:List (S46)) (w:World) (hr0_0:Kd.C Kd.bool w dJ bJ.length bJ) (hc0_0:bJ.length≤dK) (hr0_1:Kd.C k42 w gG aQ.length aQ) (hc0_1:aQ.length≤dL) (hr0_2:Kd.C k72 w dA bP.length bP) (hc0_2:bP.length≤dB) (hr2_3:Kd.C (Kd.int .u8) w dZ cX.length cX) (hc2_3:cX.length≤eA) (h:Z1.f k bJ aQ bP a1 dC dD dE cX=some (r1,r2,r3,r4)) :
  Calls Try.prog 8 #[.agg #[.slice dJ bJ.length dK,.slice gG aQ.length dL,.slice dA bP.length dB],a1,.agg #[dC,dD,dE,.slice dZ cX.length eA]] w fun e w'=>∃ kC kD kE kG:Value,e=.returned (.tuple #[.agg #[kC,kD,kE],kG])∧Kd.R Kd.bool 4 w' w.heap.size (fun _=>True) kC r1∧Kd.S k42 42 w' w.heap.size (fun _=>True) kD r2∧Kd.R k72 72 w' w.heap.size (fun _=>True) kE r3∧Kd.S k46 46 w' w.heap.size (fun _=>True) kG r4∧Below w.heap.size w w':=by
 have fT:=aM hr0_0;have gY:=aM hc0_0;clear hr0_0 hc0_0;have fU:=aM hr0_1;have gZ:=aM hc0_1;clear hr0_1 hc0_1;have gN:=aM hr0_2;have gO:=aM hc0_2;clear hr0_2 hc0_2;have hD:=aM hr2_3;have hH:=aM hc2_3;clear hr2_3 hc2_3;have HB:=aM (Below.refl w.heap.size w);have H:((Z12.f k bJ aQ bP).bind fun fO=>((some (([]:List (S46)):List (S46))).bind fun fD=>((Z13.f k bJ aQ bP).bind fun iU=>(if iU=true then ((Z5.f a1 0 (wrap64 ((bJ.length:Int) - 1))).bind fun iV=>(if iV=true then (if 0≤a1 then (if a1<(bJ.length:Int) then (Z1.j0 k a1 fD (!(rdOf false bJ a1)) bJ aQ bP dC dD dE cX fO.1 fO.2.1 fO.2.2) else (none)) else (none)) else (Z1.j0 k a1 fD true bJ aQ bP dC dD dE cX fO.1 fO.2.1 fO.2.2))) else (Z1.j0 k a1 fD true bJ aQ bP dC dD dE cX fO.1 fO.2.1 fO.2.2)))))=some (r1,r2,r3,r4):=h
 clear h;obtain ⟨⟨bH,bI,cY⟩,kH,H⟩:=hB H
 try dsimp only at H
 have A4:=aM kH;clear kH;obtain ⟨fD,jA,H⟩:=hS H;have jB:=aM jA;clear jA;have jN:=aM H;clear H;go_enter Try.func8,Try.ntmps8
 go_upto_region 3 with (first|((with_reducible refine gD (N:=3) rfl ?_);(try (refine gate_guard (by rfl) ?_;dsimp only));refine box_event ?hg (N:=3) ?hd (cs:=#[.slice dJ bJ.length dK,.slice gG aQ.length dL,.slice dA bP.length dB]) (t:=28) ?hr ?_;(case hd=>rfl);(case hg=>rfl);(case hr=>(go_simp;done));intro bG hg w6 hbox hb;have aA:=aM (hbox);replace HB:=rS HB hb;clear hb hbox hg)|((with_reducible refine gD (N:=5) rfl ?_);(try (refine gate_guard (by rfl) ?_;dsimp only));refine box_event ?hg (N:=5) ?hd (cs:=#[dC,dD,dE,.slice dZ cX.length eA]) (t:=30) ?hr ?_;(case hd=>rfl);(case hg=>rfl);(case hr=>(go_simp;done));intro bK hg w7 hbox hb;have aC:=aM (hbox);have eB:=nM hg aA;have eC:=nH hg aA;replace aA:=rB aA hb;replace HB:=rS HB hb;clear hb hbox hg)|((with_reducible refine gD (N:=6) rfl ?_);(try (refine gate_guard (by rfl) ?_;dsimp only));refine box_event ?hg (N:=6) ?hd (cs:=#[.slice none 0 0,.slice none 0 0,.slice none 0 0]) (t:=28) ?hr ?_;(case hd=>rfl);(case hg=>rfl);(case hr=>(go_simp;done));intro aX hg w8 hbox hb;have aI:=aM (hbox);have qI:=gF hg HB;have dO:=nM hg aA;have dP:=nH hg aA;have gH:=nM hg aC;have gJ:=nH hg aC;replace aA:=rB aA hb;replace aC:=rB aC hb;replace HB:=rS HB hb;clear hb hbox hg;have qN:=cA3 aA.out)|((with_reducible refine gC (f:=30) rfl ?_);refine gL (some 18) Try.func30 #[.agg #[.slice dJ bJ.length dK,.slice gG aQ.length dL,.slice dA bP.length dB]] ?_;(with_reducible refine (Z12.calls k _ _ bJ _ _ aQ _ _ bP bH bI cY _ ?side1 ?side2 ?side3 ?side4 ?side5 ?side6 A4.out).mono ?_);(case side1=>exact cM (cB fT.out HB.out));(case side2=>exact gY.out);(case side3=>exact cM (cB fU.out HB.out));(case side4=>exact gZ.out);(case side5=>exact cM (cB gN.out HB.out));(case side6=>exact gO.out);rintro e wL ⟨vF,vG,vH,rfl,ho0,ho1,ho2,hb⟩;refine ⟨_,rfl,?_⟩;have dS:=aM (Kd.R_lower ho0 (below_size (bl HB.out)));have dU:=aM (Kd.S_lower ho1 (below_size (bl HB.out)));have dV:=aM (Kd.R_lower ho2 (below_size (bl HB.out)));replace aA:=rB aA hb;replace aC:=rB aC hb;replace aI:=rB aI hb;replace HB:=rS HB hb;(repeat first|clear hb|clear ho0|clear ho1|clear ho2))|((with_reducible refine gD (N:=8) rfl ?_);(try (refine gate_guard (by rfl) ?_;dsimp only));refine box_event ?hg (N:=8) ?hd (cs:=#[.slice none 0 0,.slice none 0 0,.slice none 0 0]) (t:=28) ?hr ?_;(case hd=>rfl);(case hg=>rfl);(case hr=>(go_simp;done));intro bT hg wM hbox hb;have aK:=aM (hbox);have qP:=gF hg HB;have dQ:=nM hg aA;have dR:=nH hg aA;have fH:=nM hg aC;have fI:=nH hg aC;have fK:=nM hg aI;have fL:=nH hg aI;replace dS:=rK dS hb;replace dU:=aM (Kd.S_below (ks dU.out) hb);replace dV:=rK dV hb;replace aA:=rB aA hb;replace aC:=rB aC hb;replace aI:=rB aI hb;replace HB:=rS HB hb;clear hb hbox hg;obtain ⟨cE,cG,kY⟩:=Kd.R_slice dS.out;subst kY;have qY:=cA3 aK.out;obtain ⟨cH,cK,kZ⟩:=Kd.S_slice dU.out;subst kZ;obtain ⟨dX,dY,lA⟩:=Kd.R_slice dV.out;subst lA)|((with_reducible refine gD (N:=19) rfl ?_);(try (refine gate_guard (by rfl) ?_;dsimp only));refine Kd.S_lit k46 _ 46 ?hg (N:=19) ?hd (xs:=([]:List (S46))) (inner:=[]) (ok:=fun _=>True) (okp:=fun _=>True) ?hr ?hp (fun _ hk=>hk) trivial (Below.refl _ _) (Nat.le_refl _) (by simp) ?_;(case hd=>rfl);(case hg=>rfl);(case hr=>(go_simp;done));(case hp=>exact (Reps.none _ _));intro gW wN ho22 hb hg_ hnew_;clear hg_ hnew_;(rw [← jB.out] at ho22);have fP:=aM (Kd.S_lower ho22 (below_size (bl HB.out)));replace dS:=aM (kB (kr (rT3 dS.out aK.out (.slice cE bH.length cG) (.slice cH bI.length cK) (.slice dX cY.length dY))) hb);replace dU:=aM (Kd.S_below (ks (sT3 dU.out aK.out (.slice cE bH.length cG) (.slice cH bI.length cK) (.slice dX cY.length dY))) hb);replace dV:=aM (kB (kr (rT3 dV.out aK.out (.slice cE bH.length cG) (.slice cH bI.length cK) (.slice dX cY.length dY))) hb);replace aA:=aM (bB (fm aA.out) hb);replace aC:=aM (bB (fm aC.out) hb);replace aI:=aM (bB (fm aI.out) hb);replace aK:=aM (bB (g:=bT) (o:=.cells #[.slice cE bH.length cG,.slice cH bI.length cK,.slice dX cY.length dY] 28 (0,0)) (bm aK.out) hb);replace HB:=rS HB hb;clear hb ho22))
 go_cut [39] (fun lP wc=>∃ (kq:Nat) (hJ:Bool),lP=.bool hJ∧Aside0 (Z1.j0 kq a1 fD hJ bJ aQ bP dC dD dE cX bH bI cY=some (r1,r2,r3,r4))∧Aside0 (kq≤k)∧Aside0 (Kd.S k46 46 wc w.heap.size (fun _=>True) gW fD)∧Aside0 (Kd.R Kd.bool 4 wc w.heap.size (fun _=>True) (.slice cE bH.length cG) bH)∧Aside0 (Kd.S k42 42 wc w.heap.size (fun _=>True) (.slice cH bI.length cK) bI)∧Aside0 (Kd.R k72 72 wc w.heap.size (fun _=>True) (.slice dX cY.length dY) cY)∧Aside0 (wc.heap[bG]?=some (.cells #[(.slice dJ bJ.length dK),(.slice gG aQ.length dL),(.slice dA bP.length dB)] 28 (0,0)))∧Aside0 (wc.heap[bK]?=some (.cells #[dC,dD,dE,(.slice dZ cX.length eA)] 30 (0,0)))∧Aside0 (wc.heap[aX]?=some (.cells #[(.slice none 0 0),(.slice none 0 0),(.slice none 0 0)] 28 (0,0)))∧Aside0 (wc.heap[bT]?=some (.cells #[(.slice cE bH.length cG),(.slice cH bI.length cK),(.slice dX cY.length dY)] 28 (0,0)))∧Aside0 (Below w.heap.size w wc))
 case first =>
  have H:=jN.out;clear jN;obtain ⟨iU,jO,H⟩:=hB H;have jP:=aM jO;clear jO
  by_cases iR:iU=true
  case neg =>
   replace iR:=Bool.eq_false_iff.mpr iR;subst iR;replace H:=hF H;have H':=aM H;clear H;have rG:=cA3 aA.out;go_wp2_with (((with_reducible refine gC (f:=17) rfl ?_);refine gL (some 21) Try.func17 #[.agg #[.slice dJ bJ.length dK,.slice gG aQ.length dL,.slice dA bP.length dB]] ?_;(with_reducible refine (Z13.calls k _ _ bJ _ _ aQ _ _ bP false _ ?side1 ?side2 ?side3 ?side4 ?side5 ?side6 jP.out).mono ?_);(case side1=>exact cM (cB fT.out HB.out));(case side2=>exact gY.out);(case side3=>exact cM (cB fU.out HB.out));(case side4=>exact gZ.out);(case side5=>exact cM (cB gN.out HB.out));(case side6=>exact gO.out);rintro e wO ⟨rfl,hb⟩;refine ⟨_,rfl,?_⟩;replace dS:=rK dS hb;replace dU:=aM (Kd.S_below (ks dU.out) hb);replace dV:=rK dV hb;replace fP:=aM (Kd.S_below (ks fP.out) hb);replace aA:=rB aA hb;replace aC:=rB aC hb;replace aI:=rB aI hb;replace aK:=rB aK hb;replace HB:=rS HB hb;(try clear hb)))
   go_meet
   case rel=>skip;exact ⟨_,(true),xE,H',⟨by omega⟩,⟨ks fP.out⟩,⟨kr dS.out⟩,⟨ks dU.out⟩,⟨kr dV.out⟩,⟨bk aA.out⟩,⟨bk aC.out⟩,⟨bk aI.out⟩,⟨bk aK.out⟩,⟨bl HB.out⟩⟩
  subst iR;replace H:=hP H rfl;obtain ⟨iV,jQ,H⟩:=hB H;have kI:=aM jQ;clear jQ
  by_cases iS:iV=true
  case neg =>
   replace iS:=Bool.eq_false_iff.mpr iS;subst iS;replace H:=hF H;have H':=aM H;clear H;have rO:=cA3 aA.out;go_wp2_with (first|((with_reducible refine gC (f:=17) rfl ?_);refine gL (some 21) Try.func17 #[.agg #[.slice dJ bJ.length dK,.slice gG aQ.length dL,.slice dA bP.length dB]] ?_;(with_reducible refine (Z13.calls k _ _ bJ _ _ aQ _ _ bP true _ ?side1 ?side2 ?side3 ?side4 ?side5 ?side6 jP.out).mono ?_);(case side1=>exact cM (cB fT.out HB.out));(case side2=>exact gY.out);(case side3=>exact cM (cB fU.out HB.out));(case side4=>exact gZ.out);(case side5=>exact cM (cB gN.out HB.out));(case side6=>exact gO.out);rintro e wP ⟨rfl,hb⟩;refine ⟨_,rfl,?_⟩;replace dS:=rK dS hb;replace dU:=aM (Kd.S_below (ks dU.out) hb);replace dV:=rK dV hb;replace fP:=aM (Kd.S_below (ks fP.out) hb);replace aA:=rB aA hb;replace aC:=rB aC hb;replace aI:=rB aI hb;replace aK:=rB aK hb;replace HB:=rS HB hb;(try clear hb);have rQ:=cA3 aA.out)|(go_at_call 31;(with_reducible refine (Z5.calls a1 0 (wrap64 ((bJ.length:Int) - 1)) false _ kI.out).mono ?_);rintro e w' ⟨rfl,⟨nd,rfl⟩⟩))
   go_meet
   case rel=>skip;exact ⟨_,(true),xE,H',⟨by omega⟩,⟨ks fP.out⟩,⟨kr dS.out⟩,⟨ks dU.out⟩,⟨kr dV.out⟩,⟨bk aA.out⟩,⟨bk aC.out⟩,⟨bk aI.out⟩,⟨bk aK.out⟩,⟨bl HB.out⟩⟩
  subst iS;replace H:=hP H rfl;obtain ⟨iG,H⟩:=gI H
  (skip)
  obtain ⟨jY,H⟩:=gI H;have H':=aM H;clear H;have rZ:=cA3 aA.out;go_wp2_with (first|((with_reducible refine gC (f:=17) rfl ?_);refine gL (some 21) Try.func17 #[.agg #[.slice dJ bJ.length dK,.slice gG aQ.length dL,.slice dA bP.length dB]] ?_;(with_reducible refine (Z13.calls k _ _ bJ _ _ aQ _ _ bP true _ ?side1 ?side2 ?side3 ?side4 ?side5 ?side6 jP.out).mono ?_);(case side1=>exact cM (cB fT.out HB.out));(case side2=>exact gY.out);(case side3=>exact cM (cB fU.out HB.out));(case side4=>exact gZ.out);(case side5=>exact cM (cB gN.out HB.out));(case side6=>exact gO.out);rintro e wQ ⟨rfl,hb⟩;refine ⟨_,rfl,?_⟩;replace dS:=rK dS hb;replace dU:=aM (Kd.S_below (ks dU.out) hb);replace dV:=rK dV hb;replace fP:=aM (Kd.S_below (ks fP.out) hb);replace aA:=rB aA hb;replace aC:=rB aC hb;replace aI:=rB aI hb;replace aK:=rB aK hb;replace HB:=rS HB hb;(try clear hb);have sB:=cA3 aA.out)|(go_at_call 31;(with_reducible refine (Z5.calls a1 0 (wrap64 ((bJ.length:Int) - 1)) true _ kI.out).mono ?_);rintro e w' ⟨rfl,⟨nd,rfl⟩⟩;have iH:0≤(a1:Int):=dT;have iI:a1<(bJ.length:Int):=dT;obtain ⟨sC,lC,gX⟩:=Kd.at_bool fT.out a1 iH iI;cases lC;replace gX:=(HB.out.cell (World.block_lt_of_cell? w _ gX)).trans gX;replace iH:=eq_true iH;replace iI:=eq_true iI))
  go_meet
  case rel=>skip;exact ⟨_,(!(rdOf false bJ a1)),xE,H',⟨by omega⟩,⟨ks fP.out⟩,⟨kr dS.out⟩,⟨ks dU.out⟩,⟨kr dV.out⟩,⟨bk aA.out⟩,⟨bk aC.out⟩,⟨bk aI.out⟩,⟨bk aK.out⟩,⟨bl HB.out⟩⟩
 case rest =>
  clear jN
  repeat first|clear c1|clear c2|clear p2|clear c3|clear c4|clear p6|clear p7|clear q7|clear c8|clear c9|clear lQ|clear wR|clear wT|clear wU|clear iR|clear iS|clear wV|clear iG|clear wW|clear jY|clear wX|clear wY|clear wZ|clear xA|clear xC|clear xD|clear xF|clear xG|clear xH|clear iH|clear iI
  obtain ⟨kq,hJ,rfl,HA,HJ4,aW,aE,aG,aH,aA,aC,aI,aK,HB⟩:=hcut;cases kq with
  | zero=>exact absurd HA.out (by simp [Z1.j0])
  | succ iF =>
   have H:=HA.out;clear HA;simp only [Z1.j0] at H
   by_cases hY:hJ=true
   case pos =>
    subst hY;replace H:=hP H rfl;simp only [Option.some.injEq,Prod.mk.injEq] at H;obtain ⟨rfl,rfl,rfl,rfl⟩:=H;have sJ:=cA3 aK.out;have sO:=cA3 aI.out;go_wp2
    refine bodyPost_ret (results_ct rfl _ _ aX 28 #[.slice cE bH.length cG,.slice cH bI.length cK,.slice dX cY.length dY] (0,0) _ rfl (bm aI.out) Try.underlying28 rfl (by kernel_rfl)) rfl ?_
    exact ⟨_,_,_,_,xW,by (with_reducible repeat (first|apply Kd.R_alloc|apply Kd.R_drewN|apply Kd.R_drew));exact Kd.R_mono (rT3 aE.out aI.out (.slice cE bH.length cG) (.slice cH bI.length cK) (.slice dX cY.length dY)) (fun _ hk=>trivial),ks (Kd.S_mono (sT3 aG.out aI.out (.slice cE bH.length cG) (.slice cH bI.length cK) (.slice dX cY.length dY)) (fun _ hk=>trivial)),by (with_reducible repeat (first|apply Kd.R_alloc|apply Kd.R_drewN|apply Kd.R_drew));exact Kd.R_mono (rT3 aH.out aI.out (.slice cE bH.length cG) (.slice cH bI.length cK) (.slice dX cY.length dY)) (fun _ hk=>trivial),ks (Kd.S_mono (sT3 aW.out aI.out (.slice cE bH.length cG) (.slice cH bI.length cK) (.slice dX cY.length dY)) (fun _ hk=>trivial)),bl HB.out⟩
   replace hY:=Bool.eq_false_iff.mpr hY;subst hY;replace H:=hF H;obtain ⟨iJ,H⟩:=gI H;obtain ⟨iK,H⟩:=gI H;obtain ⟨⟨bQ,bU,bO,bA,lD⟩,jR,H⟩:=hB H
   try dsimp only at H
   have jC:=aM jR;clear jR
   by_cases hZ:lD=true
   case neg =>
    replace hZ:=Bool.eq_false_iff.mpr hZ;subst hZ;replace H:=hF H;simp only [Option.some.injEq,Prod.mk.injEq] at H;obtain ⟨rfl,rfl,rfl,rfl⟩:=H
    try go_wp2
    replace aW:=aM (Kd.S_drew aW.out);replace aE:=aM (Kd.R_drew aE.out);replace aG:=aM (Kd.S_drew aG.out);replace aH:=aM (Kd.R_drew aH.out);replace aA:=aM (blk_drew aA.out);replace aC:=aM (blk_drew aC.out);replace aI:=aM (blk_drew aI.out);replace aK:=aM (blk_drew aK.out);replace HB:=aM (below_drew1 HB.out);have fV:0≤(a1:Int):=dT;have fW:a1<(aQ.length:Int):=dT;obtain ⟨bD,eQ,eR,iW,eV,eW,hl742_1,hi742_1⟩:=at_T42 fU.out a1 fV fW;have dF:=eW;have dG:=eV;cases iW
    replace eV:=xB HB eV;replace eW:=xB HB eW;have fE:=aM hi742_1;have fY:=aM hl742_1;clear hi742_1 hl742_1;replace fV:=eq_true fV;replace fW:=eq_true fW;refine start_ (n:=13) (S:=fun w'=>cT3 w' bG (.slice dJ bJ.length dK) (.slice (some bD) aQ.length dL) (.slice dA bP.length dB) (cT4 w' bK (.int .i64 dC) (.int .i64 dD) (.int .i64 dE) (.slice dZ cX.length eA) (w'.cell? (bD.add ((a1).toNat*2))=some ((rd_T42 aQ a1).f0)∧w'.cell? ⟨(bD.add ((a1).toNat*2)).block,(bD.add ((a1).toNat*2)).off+1,none⟩=some (.slice eQ ((rd_T42 aQ a1).f1).length eR)))) (ds:=[]) (dn 13 0) (by kernel_rfl) rfl rfl ⟨cI aA.out 0,cI aA.out 1,cI aA.out 2,cI aC.out 0,cI aC.out 1,cI aC.out 2,cI aC.out 3,(xB HB dG :),(xB HB dF :)⟩ (fun hHeld=>?_);refine with_tabW Z1.tab5 Z1.bits5 (fun HT_ HW_=>?_)
    generalize wc.drew=vI at aW aE aG aH aA aC aI aK HB fE eV eW hHeld ⊢
    refine nY (N:=some 43) HT_ ?_;refine pZ 2 45 (bv 13 5) HT_ ?_;refine aZ 1 44 (bv 13 7) HT_ HW_ hHeld ?_;refine pZ 3 46 (bv 13 15) HT_ ?_;refine aZ 4 47 (bv 13 31) HT_ HW_ hHeld ?_;refine aZ 5 48 (bv 13 63) HT_ HW_ hHeld ?_;refine join_ (σ:=Value × Nat) 2 (bv 13 2047) (fun s_=>[(49,.tuple #[.agg #[bQ,bU,bO,s_.1],.bool false]),(10,.pointer (some ⟨s_.2,0,none⟩)),(42,.tuple #[.agg #[bQ,bU,bO,s_.1],.bool false]),(50,.agg #[bQ,bU,bO,s_.1]),(51,.bool false)]) (fun s_ w'=>(w'.cell? ⟨bG,0,none⟩=some (.slice dJ bJ.length dK)∧w'.cell? ⟨bG,1,none⟩=some (.slice (some bD) aQ.length dL)∧w'.cell? ⟨bG,2,none⟩=some (.slice dA bP.length dB)∧w'.cell? ⟨bK,0,none⟩=some dC∧w'.cell? ⟨bK,1,none⟩=some dD∧w'.cell? ⟨bK,2,none⟩=some dE∧w'.cell? ⟨bK,3,none⟩=some (.slice dZ cX.length eA)∧w'.cell? (bD.add ((a1).toNat*2))=some ((rd_T42 aQ a1).f0)∧w'.cell? ⟨(bD.add ((a1).toNat*2)).block,(bD.add ((a1).toNat*2)).off+1,none⟩=some (.slice eQ ((rd_T42 aQ a1).f1).length eR))∧(Kd.R (Kd.int .u8) 5 w' w.heap.size (fun _=>True) s_.1 bA)∧(Kd.R Kd.bool 4 w' w.heap.size (fun _=>True) (.slice cE bH.length cG) bH)∧(Kd.S k42 42 w' w.heap.size (fun _=>True) (.slice cH bI.length cK) bI)∧(Kd.R k72 72 w' w.heap.size (fun _=>True) (.slice dX cY.length dY) cY)∧(Kd.S k46 46 w' w.heap.size (fun k_=>some k_≠(s_.1:Value).ownBlock) gW fD)∧(w'.heap[bG]?=some (.cells #[.slice dJ bJ.length dK,.slice (some bD) aQ.length dL,.slice dA bP.length dB] 28 (0,0)))∧(w'.heap[bK]?=some (.cells #[dC,dD,dE,.slice dZ cX.length eA] 30 (0,0)))∧(w'.heap[aX]?=some (.cells #[.slice none 0 0,.slice none 0 0,.slice none 0 0] 28 (0,0)))∧(w'.heap[bT]?=some (.cells #[.slice cE bH.length cG,.slice cH bI.length cK,.slice dX cY.length dY] 28 (0,0)))∧(w'.heap[s_.2]?=some (.cells #[.int .i64 0,.int .i64 0,.int .i64 0,.slice none 0 0] 30 (0,0)))∧(w.heap.size≤s_.2)∧(w.heap.size≤s_.2)∧(bG≠s_.2)∧(s_.2≠bG)∧(bK≠s_.2)∧(s_.2≠bK)∧(aX≠s_.2)∧(s_.2≠aX)∧(bT≠s_.2)∧(s_.2≠bT)∧(Below w.heap.size w w')) ?_ ?_
    rotate_left
    ·intro hCont
     refine two_ (i:=6) (j:=10) (Ni:=some 49) (Nj:=some 10) (bv 13 127) (bv 13 1087) rfl rfl rfl rfl (two_of HT_.out (by kernel_rfl)) (by decide) (by decide) (fun K hK=>?_) (fun K hK=>?_)
     ·skip
      refine goes_ Try.func32 (by kernel_rfl) rfl #[.agg #[((rd_T42 aQ a1).f0),.slice eQ ((rd_T42 aQ a1).f1).length eR],.agg #[dC,dD,dE,.slice dZ cX.length eA]] (by rfl) rfl rfl xR ?_
      with_reducible refine (Z29.calls iF ((rd_T42 aQ a1).f0) _ _ ((rd_T42 aQ a1).f1) dC dD dE _ _ cX bQ bU bO bA false _ ?side1 ?side2 ?side3 ?side4 jC.out).mono ?_
      (case side1=>exact cM (cB fE.out HB.out))
      (case side2=>exact fY.out)
      (case side3=>exact cM (cB hD.out HB.out))
      (case side4=>exact hH.out)
      rintro e lE ⟨fF,rfl,ho0,hb⟩;refine ⟨_,rfl,?_⟩;have eM:=aM (Kd.R_lower ho0 (below_size (bl HB.out)));replace aW:=aM (Kd.S_elder' (ks aW.out) (Kd.R_base ho0) hb);replace aE:=rK aE hb;replace aG:=aM (Kd.S_below (ks aG.out) hb);replace aH:=rK aH hb;replace aA:=rB aA hb;replace aC:=rB aC hb;replace aI:=rB aI hb;replace aK:=rB aK hb;replace HB:=rS HB hb
      (try clear hb)
      (try clear ho0)
      refine hK.out _ _ ⟨cI aA.out 0,cI aA.out 1,cI aA.out 2,cI aC.out 0,cI aC.out 1,cI aC.out 2,cI aC.out 3,(xB HB dG :),(xB HB dF :)⟩ (fun hHeld=>?_)
      clear hK K;refine norm_ (a':=?_) ?_ ?_;rotate_left
      ·show Act.put _ (some 49) _=_
       simp only [Act.put,sA,sZ,sS,i64_w,i32_w]
       rfl
      refine pZ 7 42 (bv 13 255) HT_ ?_;refine pZ 8 50 (bv 13 511) HT_ ?_;refine pZ 9 51 (bv 13 1023) HT_ ?_;refine one_ (i:=10) (N:=some 10) (bv 13 2047) rfl rfl (one_of HT_.out (by kernel_rfl)) (by decide) (fun K hK=>?_)
      refine box_step ?hg (N:=10) ?hd (cs:=#[.int .i64 0,.int .i64 0,.int .i64 0,.slice none 0 0]) (t:=30) ?hr ?_;(case hd=>rfl);(case hg=>rfl);(case hr=>(go_simp;done))
      intro aJ hg lF hbox hb;have aD:=aM (hbox);have dM:=gF hg HB;have fQ:=gF hg HB;have bM:=nM hg aA;have bN:=nH hg aA;have cC:=nM hg aC;have cD:=nH hg aC;have bX:=nM hg aI;have bY:=nH hg aI;have bZ:=nM hg aK;have cA:=nH hg aK;replace aW:=aM (Kd.S_below (ks aW.out) hb);replace aE:=rK aE hb;replace aG:=aM (Kd.S_below (ks aG.out) hb);replace aH:=rK aH hb;replace eM:=rK eM hb;replace aA:=rB aA hb;replace aC:=rB aC hb;replace aI:=rB aI hb;replace aK:=rB aK hb;replace HB:=rS HB hb;clear hb hbox hg;refine hK.out _ _ ⟨cI aA.out 0,cI aA.out 1,cI aA.out 2,cI aC.out 0,cI aC.out 1,cI aC.out 2,cI aC.out 3,(xB HB dG :),(xB HB dF :)⟩ (fun hHeld=>?_)
      clear hK K;refine norm_ (a':=?_) ?_ ?_;rotate_left
      ·show Act.put _ (some 10) _=_
       simp only [Act.put,sA,sZ,sS,i64_w,i32_w]
       rfl
      exact norm_ (by simp only [putAll,Act.put,sA,sZ,sS]) (hCont (fF,aJ) _ ⟨hHeld,(kr eM.out),(kr aE.out),(ks aG.out),(kr aH.out),(ks (Kd.S_mono aW.out (fun _ hk=>hk.2))),(bk aA.out),(bk aC.out),(bk aI.out),(bk aK.out),(bk aD.out),dM.out,fQ.out,bM.out,bN.out,cC.out,cD.out,bX.out,bY.out,bZ.out,cA.out,(bl HB.out)⟩)
     ·skip
      refine box_step ?hg (N:=10) ?hd (cs:=#[.int .i64 0,.int .i64 0,.int .i64 0,.slice none 0 0]) (t:=30) ?hr ?_;(case hd=>rfl);(case hg=>rfl);(case hr=>(go_simp;done))
      intro aJ hg lE hbox hb;have aD:=aM (hbox);have dM:=gF hg HB;have fQ:=gF hg HB;have bM:=nM hg aA;have bN:=nH hg aA;have cC:=nM hg aC;have cD:=nH hg aC;have bX:=nM hg aI;have bY:=nH hg aI;have bZ:=nM hg aK;have cA:=nH hg aK;replace aW:=aM (Kd.S_below (ks aW.out) hb);replace aE:=rK aE hb;replace aG:=aM (Kd.S_below (ks aG.out) hb);replace aH:=rK aH hb;replace aA:=rB aA hb;replace aC:=rB aC hb;replace aI:=rB aI hb;replace aK:=rB aK hb;replace HB:=rS HB hb;clear hb hbox hg;refine hK.out _ _ ⟨cI aA.out 0,cI aA.out 1,cI aA.out 2,cI aC.out 0,cI aC.out 1,cI aC.out 2,cI aC.out 3,(xB HB dG :),(xB HB dF :)⟩ (fun hHeld=>?_)
      clear hK K;refine norm_ (a':=?_) ?_ ?_;rotate_left
      ·show Act.put _ (some 10) _=_
       simp only [Act.put,sA,sZ,sS,i64_w,i32_w]
       rfl
      refine one_ (i:=6) (N:=some 49) (bv 13 1151) rfl rfl (one_of HT_.out (by kernel_rfl)) (by decide) (fun K hK=>?_)
      refine goes_ Try.func32 (by kernel_rfl) rfl #[.agg #[((rd_T42 aQ a1).f0),.slice eQ ((rd_T42 aQ a1).f1).length eR],.agg #[dC,dD,dE,.slice dZ cX.length eA]] (by rfl) rfl rfl xR ?_
      with_reducible refine (Z29.calls iF ((rd_T42 aQ a1).f0) _ _ ((rd_T42 aQ a1).f1) dC dD dE _ _ cX bQ bU bO bA false _ ?side1 ?side2 ?side3 ?side4 jC.out).mono ?_
      (case side1=>exact cM (cB fE.out HB.out))
      (case side2=>exact fY.out)
      (case side3=>exact cM (cB hD.out HB.out))
      (case side4=>exact hH.out)
      rintro e lF ⟨fF,rfl,ho0,hb⟩;refine ⟨_,rfl,?_⟩;have eM:=aM (Kd.R_lower ho0 (below_size (bl HB.out)));replace aW:=aM (Kd.S_elder' (ks aW.out) (Kd.R_base ho0) hb);replace aE:=rK aE hb;replace aG:=aM (Kd.S_below (ks aG.out) hb);replace aH:=rK aH hb;replace aA:=rB aA hb;replace aC:=rB aC hb;replace aI:=rB aI hb;replace aK:=rB aK hb;replace aD:=rB aD hb;replace HB:=rS HB hb
      (try clear hb)
      (try clear ho0)
      refine hK.out _ _ ⟨cI aA.out 0,cI aA.out 1,cI aA.out 2,cI aC.out 0,cI aC.out 1,cI aC.out 2,cI aC.out 3,(xB HB dG :),(xB HB dF :)⟩ (fun hHeld=>?_)
      clear hK K;refine norm_ (a':=?_) ?_ ?_;rotate_left
      ·show Act.put _ (some 49) _=_
       simp only [Act.put,sA,sZ,sS,i64_w,i32_w]
       rfl
      refine pZ 7 42 (bv 13 1279) HT_ ?_;refine pZ 8 50 (bv 13 1535) HT_ ?_;refine pZ 9 51 (bv 13 2047) HT_ ?_;exact norm_ (by simp only [putAll,Act.put,sA,sZ,sS]) (hCont (fF,aJ) _ ⟨hHeld,(kr eM.out),(kr aE.out),(ks aG.out),(kr aH.out),(ks (Kd.S_mono aW.out (fun _ hk=>hk.2))),(bk aA.out),(bk aC.out),(bk aI.out),(bk aK.out),(bk aD.out),dM.out,fQ.out,bM.out,bN.out,cC.out,cD.out,bX.out,bY.out,bZ.out,cA.out,(bl HB.out)⟩)
    rintro ⟨fF,aJ⟩ eN ⟨hS_,h0_,h1_,h2_,h3_,h4_,h5_,h6_,h7_,h8_,h9_,h10_,h11_,h12_,h13_,h14_,h15_,h16_,h17_,h18_,h19_,h20_⟩;have eM:Aside0 (Kd.R (Kd.int .u8) 5 eN w.heap.size (fun _=>True) fF bA):=⟨h0_⟩
    have aD:Aside0 (eN.heap[aJ]?=some (.cells #[.int .i64 0,.int .i64 0,.int .i64 0,.slice none 0 0] 30 (0,0))):=⟨h9_⟩;have dM:Aside0 (w.heap.size≤aJ):=⟨h10_⟩;have fQ:Aside0 (w.heap.size≤aJ):=⟨h11_⟩;have bM:Aside0 (bG≠aJ):=⟨h12_⟩;have bN:Aside0 (aJ≠bG):=⟨h13_⟩;have cC:Aside0 (bK≠aJ):=⟨h14_⟩;have cD:Aside0 (aJ≠bK):=⟨h15_⟩;have bX:Aside0 (aX≠aJ):=⟨h16_⟩;have bY:Aside0 (aJ≠aX):=⟨h17_⟩;have bZ:Aside0 (bT≠aJ):=⟨h18_⟩;have cA:Aside0 (aJ≠bT):=⟨h19_⟩;replace aE:Aside0 (Kd.R Kd.bool 4 eN w.heap.size (fun _=>True) (.slice cE bH.length cG) bH):=⟨h1_⟩
    replace aG:Aside0 (Kd.S k42 42 eN w.heap.size (fun _=>True) (.slice cH bI.length cK) bI):=⟨h2_⟩
    replace aH:Aside0 (Kd.R k72 72 eN w.heap.size (fun _=>True) (.slice dX cY.length dY) cY):=⟨h3_⟩
    replace aW:Aside0 (Kd.S k46 46 eN w.heap.size (fun k_=>some k_≠(fF:Value).ownBlock) gW fD):=⟨h4_⟩
    replace aA:Aside0 (eN.heap[bG]?=some (.cells #[.slice dJ bJ.length dK,.slice (some bD) aQ.length dL,.slice dA bP.length dB] 28 (0,0))):=⟨h5_⟩;replace aC:Aside0 (eN.heap[bK]?=some (.cells #[dC,dD,dE,.slice dZ cX.length eA] 30 (0,0))):=⟨h6_⟩;replace aI:Aside0 (eN.heap[aX]?=some (.cells #[.slice none 0 0,.slice none 0 0,.slice none 0 0] 28 (0,0))):=⟨h7_⟩;replace aK:Aside0 (eN.heap[bT]?=some (.cells #[.slice cE bH.length cG,.slice cH bI.length cK,.slice dX cY.length dY] 28 (0,0))):=⟨h8_⟩;replace HB:Aside0 (Below w.heap.size w eN):=⟨h20_⟩;clear h0_ h1_ h2_ h3_ h4_ h5_ h6_ h7_ h8_ h9_ h10_ h11_ h12_ h13_ h14_ h15_ h16_ h17_ h18_ h19_ h20_;have hHeld:eN.cell? ⟨bG,0,none⟩=some (.slice dJ bJ.length dK)∧eN.cell? ⟨bG,1,none⟩=some (.slice (some bD) aQ.length dL)∧eN.cell? ⟨bG,2,none⟩=some (.slice dA bP.length dB)∧eN.cell? ⟨bK,0,none⟩=some dC∧eN.cell? ⟨bK,1,none⟩=some dD∧eN.cell? ⟨bK,2,none⟩=some dE∧eN.cell? ⟨bK,3,none⟩=some (.slice dZ cX.length eA)∧eN.cell? (bD.add ((a1).toNat*2))=some ((rd_T42 aQ a1).f0)∧eN.cell? ⟨(bD.add ((a1).toNat*2)).block,(bD.add ((a1).toNat*2)).off+1,none⟩=some (.slice eQ ((rd_T42 aQ a1).f1).length eR):=hS_;obtain ⟨hO,hU,jD⟩:=Kd.R_slice eM.out
    (subst jD)
    refine norm_ (a':=?_) ?_ ?_;rotate_left
    ·simp only [putAll,Act.put,sA,sZ,sS]
     rfl
    refine one_ (i:=11) (N:=none) (bv 13 4095) rfl rfl (one_of HT_.out (by kernel_rfl)) (by decide) (fun K hK=>?_)
    have sP:=cI aD.out 0;have hfs174:=bF aD.out 0;have sQ:=cI aD.out 1;have hfs175:=bF aD.out 1;have sR:=cI aD.out 2;have hfs176:=bF aD.out 2;have sT:=cI aD.out 3;have hfs178:=bF aD.out 3;refine skip_ (w1:=?_) (by rfl) rfl ?_ ?_
    rotate_left
    ·go_simp
     rfl
    refine hK.out _ _ ⟨(cm (hHeld.1)),(cm (hHeld.2.1)),(cm (hHeld.2.2.1)),(cm (hHeld.2.2.2.1)),(cm (hHeld.2.2.2.2.1)),(cm (hHeld.2.2.2.2.2.1)),(cm (hHeld.2.2.2.2.2.2.1)),((cF dG dM.out).trans (((cF dG dM.out).trans (((cF dG dM.out).trans (((cF dG dM.out).trans (hHeld.2.2.2.2.2.2.2.1)))))))),((cF dF dM.out).trans (((cF dF dM.out).trans (((cF dF dM.out).trans (((cF dF dM.out).trans (hHeld.2.2.2.2.2.2.2.2))))))))⟩ (fun hHeld=>?_)
    clear hK K;refine pZ 12 11 (bv 13 8191) HT_ ?_;refine done_ (done_of HT_.out (by kernel_rfl)) ?_
    have lZ:=cA.out;have mA:=cA3 aK.out;have mB:=dP.out;have mC:=dO.out;have mD:=gJ.out;have mE:=gH.out;have mF:=bX.out;have mG:=bY.out;have mH:=cA3 aI.out
    try go_wp2
    refine bodyPost_ret (results_ct rfl _ _ aX 28 #[.slice cE bH.length cG,.slice cH bI.length cK,.slice dX cY.length dY] (0,0) _ rfl (bm aI.out) Try.underlying28 rfl (by kernel_rfl)) rfl ?_
    exact ⟨_,_,_,_,xW,by (with_reducible repeat (first|apply Kd.R_alloc|apply Kd.R_drewN|apply Kd.R_drew));exact Kd.R_mono (rF3 (g:=aX) (rF4 (g:=aJ) (Kd.R_types (Kd.R_types aE.out aD.out (by decide)) aI.out (by decide)) (fun _ hk=>hk.1.2) (.int .i64 bQ) (.int .i64 bU) (.int .i64 bO) (.slice hO bA.length hU)) (fun _ hk=>hk.2) (.slice cE bH.length cG) (.slice cH bI.length cK) (.slice dX cY.length dY)) (fun _ hk=>trivial),ks (Kd.S_mono (sF3 (g:=aX) (sF4 (g:=aJ) (Kd.S_types (Kd.S_types aG.out aD.out (by decide)) aI.out (by decide)) (fun _ hk=>hk.1.2) (.int .i64 bQ) (.int .i64 bU) (.int .i64 bO) (.slice hO bA.length hU)) (fun _ hk=>hk.2) (.slice cE bH.length cG) (.slice cH bI.length cK) (.slice dX cY.length dY)) (fun _ hk=>trivial)),by (with_reducible repeat (first|apply Kd.R_alloc|apply Kd.R_drewN|apply Kd.R_drew));exact Kd.R_mono (rF3 (g:=aX) (rF4 (g:=aJ) (Kd.R_types (Kd.R_types aH.out aD.out (by decide)) aI.out (by decide)) (fun _ hk=>hk.1.2) (.int .i64 bQ) (.int .i64 bU) (.int .i64 bO) (.slice hO bA.length hU)) (fun _ hk=>hk.2) (.slice cE bH.length cG) (.slice cH bI.length cK) (.slice dX cY.length dY)) (fun _ hk=>trivial),ks (Kd.S_mono (sF3 (g:=aX) (sF4 (g:=aJ) (Kd.S_types (Kd.S_types aW.out aD.out (by decide)) aI.out (by decide)) (fun _ hk=>hk.1.2) (.int .i64 bQ) (.int .i64 bU) (.int .i64 bO) (.slice hO bA.length hU)) (fun _ hk=>hk.2) (.slice cE bH.length cG) (.slice cH bI.length cK) (.slice dX cY.length dY)) (fun _ hk=>trivial)),bl HB.out⟩
   subst hZ;replace H:=hP H rfl;obtain ⟨⟨fX,jS⟩,jT,H⟩:=hB H
   try dsimp only at H
   have mI:=aM jT;clear jT;have iX:=aM H;clear H
   try go_wp2
   replace aW:=aM (Kd.S_drew aW.out);replace aE:=aM (Kd.R_drew aE.out);replace aG:=aM (Kd.S_drew aG.out);replace aH:=aM (Kd.R_drew aH.out);replace aA:=aM (blk_drew aA.out);replace aC:=aM (blk_drew aC.out);replace aI:=aM (blk_drew aI.out);replace aK:=aM (blk_drew aK.out);replace HB:=aM (below_drew1 HB.out);have fV:0≤(a1:Int):=dT;have fW:a1<(aQ.length:Int):=dT;obtain ⟨bD,eQ,eR,iW,eV,eW,hl742_1,hi742_1⟩:=at_T42 fU.out a1 fV fW;have dF:=eW;have dG:=eV;cases iW
   replace eV:=xB HB eV;replace eW:=xB HB eW;have fE:=aM hi742_1;have fY:=aM hl742_1;clear hi742_1 hl742_1;replace fV:=eq_true fV;replace fW:=eq_true fW;refine start_ (n:=13) (S:=fun w'=>cT3 w' bG (.slice dJ bJ.length dK) (.slice (some bD) aQ.length dL) (.slice dA bP.length dB) (cT4 w' bK (.int .i64 dC) (.int .i64 dD) (.int .i64 dE) (.slice dZ cX.length eA) (w'.cell? (bD.add ((a1).toNat*2))=some ((rd_T42 aQ a1).f0)∧w'.cell? ⟨(bD.add ((a1).toNat*2)).block,(bD.add ((a1).toNat*2)).off+1,none⟩=some (.slice eQ ((rd_T42 aQ a1).f1).length eR)))) (ds:=[]) (dn 13 0) (by kernel_rfl) rfl rfl ⟨cI aA.out 0,cI aA.out 1,cI aA.out 2,cI aC.out 0,cI aC.out 1,cI aC.out 2,cI aC.out 3,(xB HB dG :),(xB HB dF :)⟩ (fun hHeld=>?_);refine with_tabW Z1.tab5 Z1.bits5 (fun HT_ HW_=>?_)
   generalize wc.drew=xI at aW aE aG aH aA aC aI aK HB fE eV eW hHeld ⊢
   refine nY (N:=some 43) HT_ ?_;refine pZ 2 45 (bv 13 5) HT_ ?_;refine aZ 1 44 (bv 13 7) HT_ HW_ hHeld ?_;refine pZ 3 46 (bv 13 15) HT_ ?_;refine aZ 4 47 (bv 13 31) HT_ HW_ hHeld ?_;refine aZ 5 48 (bv 13 63) HT_ HW_ hHeld ?_;refine join_ (σ:=Value × Nat) 2 (bv 13 2047) (fun s_=>[(49,.tuple #[.agg #[bQ,bU,bO,s_.1],.bool true]),(10,.pointer (some ⟨s_.2,0,none⟩)),(42,.tuple #[.agg #[bQ,bU,bO,s_.1],.bool true]),(50,.agg #[bQ,bU,bO,s_.1]),(51,.bool true)]) (fun s_ w'=>(w'.cell? ⟨bG,0,none⟩=some (.slice dJ bJ.length dK)∧w'.cell? ⟨bG,1,none⟩=some (.slice (some bD) aQ.length dL)∧w'.cell? ⟨bG,2,none⟩=some (.slice dA bP.length dB)∧w'.cell? ⟨bK,0,none⟩=some dC∧w'.cell? ⟨bK,1,none⟩=some dD∧w'.cell? ⟨bK,2,none⟩=some dE∧w'.cell? ⟨bK,3,none⟩=some (.slice dZ cX.length eA)∧w'.cell? (bD.add ((a1).toNat*2))=some ((rd_T42 aQ a1).f0)∧w'.cell? ⟨(bD.add ((a1).toNat*2)).block,(bD.add ((a1).toNat*2)).off+1,none⟩=some (.slice eQ ((rd_T42 aQ a1).f1).length eR))∧(Kd.R (Kd.int .u8) 5 w' w.heap.size (fun _=>True) s_.1 bA)∧(Kd.R Kd.bool 4 w' w.heap.size (fun _=>True) (.slice cE bH.length cG) bH)∧(Kd.S k42 42 w' w.heap.size (fun _=>True) (.slice cH bI.length cK) bI)∧(Kd.R k72 72 w' w.heap.size (fun _=>True) (.slice dX cY.length dY) cY)∧(Kd.S k46 46 w' w.heap.size (fun k_=>some k_≠(s_.1:Value).ownBlock) gW fD)∧(w'.heap[bG]?=some (.cells #[.slice dJ bJ.length dK,.slice (some bD) aQ.length dL,.slice dA bP.length dB] 28 (0,0)))∧(w'.heap[bK]?=some (.cells #[dC,dD,dE,.slice dZ cX.length eA] 30 (0,0)))∧(w'.heap[aX]?=some (.cells #[.slice none 0 0,.slice none 0 0,.slice none 0 0] 28 (0,0)))∧(w'.heap[bT]?=some (.cells #[.slice cE bH.length cG,.slice cH bI.length cK,.slice dX cY.length dY] 28 (0,0)))∧(w'.heap[s_.2]?=some (.cells #[.int .i64 0,.int .i64 0,.int .i64 0,.slice none 0 0] 30 (0,0)))∧(w.heap.size≤s_.2)∧(w.heap.size≤s_.2)∧(bG≠s_.2)∧(s_.2≠bG)∧(bK≠s_.2)∧(s_.2≠bK)∧(aX≠s_.2)∧(s_.2≠aX)∧(bT≠s_.2)∧(s_.2≠bT)∧(Below w.heap.size w w')) ?_ ?_
   rotate_left
   ·intro hCont
    refine two_ (i:=6) (j:=10) (Ni:=some 49) (Nj:=some 10) (bv 13 127) (bv 13 1087) rfl rfl rfl rfl (two_of HT_.out (by kernel_rfl)) (by decide) (by decide) (fun K hK=>?_) (fun K hK=>?_)
    ·skip
     refine goes_ Try.func32 (by kernel_rfl) rfl #[.agg #[((rd_T42 aQ a1).f0),.slice eQ ((rd_T42 aQ a1).f1).length eR],.agg #[dC,dD,dE,.slice dZ cX.length eA]] (by rfl) rfl rfl xR ?_
     with_reducible refine (Z29.calls iF ((rd_T42 aQ a1).f0) _ _ ((rd_T42 aQ a1).f1) dC dD dE _ _ cX bQ bU bO bA true _ ?side1 ?side2 ?side3 ?side4 jC.out).mono ?_
     (case side1=>exact cM (cB fE.out HB.out))
     (case side2=>exact fY.out)
     (case side3=>exact cM (cB hD.out HB.out))
     (case side4=>exact hH.out)
     rintro e mJ ⟨fF,rfl,ho0,hb⟩;refine ⟨_,rfl,?_⟩;have eM:=aM (Kd.R_lower ho0 (below_size (bl HB.out)));replace aW:=aM (Kd.S_elder' (ks aW.out) (Kd.R_base ho0) hb);replace aE:=rK aE hb;replace aG:=aM (Kd.S_below (ks aG.out) hb);replace aH:=rK aH hb;replace aA:=rB aA hb;replace aC:=rB aC hb;replace aI:=rB aI hb;replace aK:=rB aK hb;replace HB:=rS HB hb
     (try clear hb)
     (try clear ho0)
     refine hK.out _ _ ⟨cI aA.out 0,cI aA.out 1,cI aA.out 2,cI aC.out 0,cI aC.out 1,cI aC.out 2,cI aC.out 3,(xB HB dG :),(xB HB dF :)⟩ (fun hHeld=>?_)
     clear hK K;refine norm_ (a':=?_) ?_ ?_;rotate_left
     ·show Act.put _ (some 49) _=_
      simp only [Act.put,sA,sZ,sS,i64_w,i32_w]
      rfl
     refine pZ 7 42 (bv 13 255) HT_ ?_;refine pZ 8 50 (bv 13 511) HT_ ?_;refine pZ 9 51 (bv 13 1023) HT_ ?_;refine one_ (i:=10) (N:=some 10) (bv 13 2047) rfl rfl (one_of HT_.out (by kernel_rfl)) (by decide) (fun K hK=>?_)
     refine box_step ?hg (N:=10) ?hd (cs:=#[.int .i64 0,.int .i64 0,.int .i64 0,.slice none 0 0]) (t:=30) ?hr ?_;(case hd=>rfl);(case hg=>rfl);(case hr=>(go_simp;done))
     intro aJ hg mK hbox hb;have aD:=aM (hbox);have dM:=gF hg HB;have fQ:=gF hg HB;have bM:=nM hg aA;have bN:=nH hg aA;have cC:=nM hg aC;have cD:=nH hg aC;have bX:=nM hg aI;have bY:=nH hg aI;have bZ:=nM hg aK;have cA:=nH hg aK;replace aW:=aM (Kd.S_below (ks aW.out) hb);replace aE:=rK aE hb;replace aG:=aM (Kd.S_below (ks aG.out) hb);replace aH:=rK aH hb;replace eM:=rK eM hb;replace aA:=rB aA hb;replace aC:=rB aC hb;replace aI:=rB aI hb;replace aK:=rB aK hb;replace HB:=rS HB hb;clear hb hbox hg;refine hK.out _ _ ⟨cI aA.out 0,cI aA.out 1,cI aA.out 2,cI aC.out 0,cI aC.out 1,cI aC.out 2,cI aC.out 3,(xB HB dG :),(xB HB dF :)⟩ (fun hHeld=>?_)
     clear hK K;refine norm_ (a':=?_) ?_ ?_;rotate_left
     ·show Act.put _ (some 10) _=_
      simp only [Act.put,sA,sZ,sS,i64_w,i32_w]
      rfl
     exact norm_ (by simp only [putAll,Act.put,sA,sZ,sS]) (hCont (fF,aJ) _ ⟨hHeld,(kr eM.out),(kr aE.out),(ks aG.out),(kr aH.out),(ks (Kd.S_mono aW.out (fun _ hk=>hk.2))),(bk aA.out),(bk aC.out),(bk aI.out),(bk aK.out),(bk aD.out),dM.out,fQ.out,bM.out,bN.out,cC.out,cD.out,bX.out,bY.out,bZ.out,cA.out,(bl HB.out)⟩)
    ·skip
     refine box_step ?hg (N:=10) ?hd (cs:=#[.int .i64 0,.int .i64 0,.int .i64 0,.slice none 0 0]) (t:=30) ?hr ?_;(case hd=>rfl);(case hg=>rfl);(case hr=>(go_simp;done))
     intro aJ hg mJ hbox hb;have aD:=aM (hbox);have dM:=gF hg HB;have fQ:=gF hg HB;have bM:=nM hg aA;have bN:=nH hg aA;have cC:=nM hg aC;have cD:=nH hg aC;have bX:=nM hg aI;have bY:=nH hg aI;have bZ:=nM hg aK;have cA:=nH hg aK;replace aW:=aM (Kd.S_below (ks aW.out) hb);replace aE:=rK aE hb;replace aG:=aM (Kd.S_below (ks aG.out) hb);replace aH:=rK aH hb;replace aA:=rB aA hb;replace aC:=rB aC hb;replace aI:=rB aI hb;replace aK:=rB aK hb;replace HB:=rS HB hb;clear hb hbox hg;refine hK.out _ _ ⟨cI aA.out 0,cI aA.out 1,cI aA.out 2,cI aC.out 0,cI aC.out 1,cI aC.out 2,cI aC.out 3,(xB HB dG :),(xB HB dF :)⟩ (fun hHeld=>?_)
     clear hK K;refine norm_ (a':=?_) ?_ ?_;rotate_left
     ·show Act.put _ (some 10) _=_
      simp only [Act.put,sA,sZ,sS,i64_w,i32_w]
      rfl
     refine one_ (i:=6) (N:=some 49) (bv 13 1151) rfl rfl (one_of HT_.out (by kernel_rfl)) (by decide) (fun K hK=>?_)
     refine goes_ Try.func32 (by kernel_rfl) rfl #[.agg #[((rd_T42 aQ a1).f0),.slice eQ ((rd_T42 aQ a1).f1).length eR],.agg #[dC,dD,dE,.slice dZ cX.length eA]] (by rfl) rfl rfl xR ?_
     with_reducible refine (Z29.calls iF ((rd_T42 aQ a1).f0) _ _ ((rd_T42 aQ a1).f1) dC dD dE _ _ cX bQ bU bO bA true _ ?side1 ?side2 ?side3 ?side4 jC.out).mono ?_
     (case side1=>exact cM (cB fE.out HB.out))
     (case side2=>exact fY.out)
     (case side3=>exact cM (cB hD.out HB.out))
     (case side4=>exact hH.out)
     rintro e mK ⟨fF,rfl,ho0,hb⟩;refine ⟨_,rfl,?_⟩;have eM:=aM (Kd.R_lower ho0 (below_size (bl HB.out)));replace aW:=aM (Kd.S_elder' (ks aW.out) (Kd.R_base ho0) hb);replace aE:=rK aE hb;replace aG:=aM (Kd.S_below (ks aG.out) hb);replace aH:=rK aH hb;replace aA:=rB aA hb;replace aC:=rB aC hb;replace aI:=rB aI hb;replace aK:=rB aK hb;replace aD:=rB aD hb;replace HB:=rS HB hb
     (try clear hb)
     (try clear ho0)
     refine hK.out _ _ ⟨cI aA.out 0,cI aA.out 1,cI aA.out 2,cI aC.out 0,cI aC.out 1,cI aC.out 2,cI aC.out 3,(xB HB dG :),(xB HB dF :)⟩ (fun hHeld=>?_)
     clear hK K;refine norm_ (a':=?_) ?_ ?_;rotate_left
     ·show Act.put _ (some 49) _=_
      simp only [Act.put,sA,sZ,sS,i64_w,i32_w]
      rfl
     refine pZ 7 42 (bv 13 1279) HT_ ?_;refine pZ 8 50 (bv 13 1535) HT_ ?_;refine pZ 9 51 (bv 13 2047) HT_ ?_;exact norm_ (by simp only [putAll,Act.put,sA,sZ,sS]) (hCont (fF,aJ) _ ⟨hHeld,(kr eM.out),(kr aE.out),(ks aG.out),(kr aH.out),(ks (Kd.S_mono aW.out (fun _ hk=>hk.2))),(bk aA.out),(bk aC.out),(bk aI.out),(bk aK.out),(bk aD.out),dM.out,fQ.out,bM.out,bN.out,cC.out,cD.out,bX.out,bY.out,bZ.out,cA.out,(bl HB.out)⟩)
   rintro ⟨fF,aJ⟩ fC ⟨hS_,h0_,h1_,h2_,h3_,h4_,h5_,h6_,h7_,h8_,h9_,h10_,h11_,h12_,h13_,h14_,h15_,h16_,h17_,h18_,h19_,h20_⟩;have eM:Aside0 (Kd.R (Kd.int .u8) 5 fC w.heap.size (fun _=>True) fF bA):=⟨h0_⟩
   have aD:Aside0 (fC.heap[aJ]?=some (.cells #[.int .i64 0,.int .i64 0,.int .i64 0,.slice none 0 0] 30 (0,0))):=⟨h9_⟩;have dM:Aside0 (w.heap.size≤aJ):=⟨h10_⟩;have fQ:Aside0 (w.heap.size≤aJ):=⟨h11_⟩;have bM:Aside0 (bG≠aJ):=⟨h12_⟩;have bN:Aside0 (aJ≠bG):=⟨h13_⟩;have cC:Aside0 (bK≠aJ):=⟨h14_⟩;have cD:Aside0 (aJ≠bK):=⟨h15_⟩;have bX:Aside0 (aX≠aJ):=⟨h16_⟩;have bY:Aside0 (aJ≠aX):=⟨h17_⟩;have bZ:Aside0 (bT≠aJ):=⟨h18_⟩;have cA:Aside0 (aJ≠bT):=⟨h19_⟩;replace aE:Aside0 (Kd.R Kd.bool 4 fC w.heap.size (fun _=>True) (.slice cE bH.length cG) bH):=⟨h1_⟩
   replace aG:Aside0 (Kd.S k42 42 fC w.heap.size (fun _=>True) (.slice cH bI.length cK) bI):=⟨h2_⟩
   replace aH:Aside0 (Kd.R k72 72 fC w.heap.size (fun _=>True) (.slice dX cY.length dY) cY):=⟨h3_⟩
   replace aW:Aside0 (Kd.S k46 46 fC w.heap.size (fun k_=>some k_≠(fF:Value).ownBlock) gW fD):=⟨h4_⟩
   replace aA:Aside0 (fC.heap[bG]?=some (.cells #[.slice dJ bJ.length dK,.slice (some bD) aQ.length dL,.slice dA bP.length dB] 28 (0,0))):=⟨h5_⟩;replace aC:Aside0 (fC.heap[bK]?=some (.cells #[dC,dD,dE,.slice dZ cX.length eA] 30 (0,0))):=⟨h6_⟩;replace aI:Aside0 (fC.heap[aX]?=some (.cells #[.slice none 0 0,.slice none 0 0,.slice none 0 0] 28 (0,0))):=⟨h7_⟩;replace aK:Aside0 (fC.heap[bT]?=some (.cells #[.slice cE bH.length cG,.slice cH bI.length cK,.slice dX cY.length dY] 28 (0,0))):=⟨h8_⟩;replace HB:Aside0 (Below w.heap.size w fC):=⟨h20_⟩;clear h0_ h1_ h2_ h3_ h4_ h5_ h6_ h7_ h8_ h9_ h10_ h11_ h12_ h13_ h14_ h15_ h16_ h17_ h18_ h19_ h20_;have hHeld:fC.cell? ⟨bG,0,none⟩=some (.slice dJ bJ.length dK)∧fC.cell? ⟨bG,1,none⟩=some (.slice (some bD) aQ.length dL)∧fC.cell? ⟨bG,2,none⟩=some (.slice dA bP.length dB)∧fC.cell? ⟨bK,0,none⟩=some dC∧fC.cell? ⟨bK,1,none⟩=some dD∧fC.cell? ⟨bK,2,none⟩=some dE∧fC.cell? ⟨bK,3,none⟩=some (.slice dZ cX.length eA)∧fC.cell? (bD.add ((a1).toNat*2))=some ((rd_T42 aQ a1).f0)∧fC.cell? ⟨(bD.add ((a1).toNat*2)).block,(bD.add ((a1).toNat*2)).off+1,none⟩=some (.slice eQ ((rd_T42 aQ a1).f1).length eR):=hS_;obtain ⟨bV,bW,jU⟩:=Kd.R_slice eM.out
   (subst jU)
   refine norm_ (a':=?_) ?_ ?_;rotate_left
   ·simp only [putAll,Act.put,sA,sZ,sS]
    rfl
   refine one_ (i:=11) (N:=none) (bv 13 4095) rfl rfl (one_of HT_.out (by kernel_rfl)) (by decide) (fun K hK=>?_)
   have vJ:=cI aD.out 0;have hfs64:=bF aD.out 0;have vK:=cI aD.out 1;have hfs65:=bF aD.out 1;have vL:=cI aD.out 2;have hfs66:=bF aD.out 2;have vM:=cI aD.out 3;have hfs68:=bF aD.out 3;refine skip_ (w1:=?_) (by rfl) rfl ?_ ?_
   rotate_left
   ·go_simp
    rfl
   refine hK.out _ _ ⟨(cm (hHeld.1)),(cm (hHeld.2.1)),(cm (hHeld.2.2.1)),(cm (hHeld.2.2.2.1)),(cm (hHeld.2.2.2.2.1)),(cm (hHeld.2.2.2.2.2.1)),(cm (hHeld.2.2.2.2.2.2.1)),((cF dG dM.out).trans (((cF dG dM.out).trans (((cF dG dM.out).trans (((cF dG dM.out).trans (hHeld.2.2.2.2.2.2.2.1)))))))),((cF dF dM.out).trans (((cF dF dM.out).trans (((cF dF dM.out).trans (((cF dF dM.out).trans (hHeld.2.2.2.2.2.2.2.2))))))))⟩ (fun hHeld=>?_)
   clear hK K;refine pZ 12 11 (bv 13 8191) HT_ ?_;refine done_ (done_of HT_.out (by kernel_rfl)) ?_
   go_upto_region 9 with (((with_reducible refine gC (f:=33) rfl ?_);refine gL (some 63) Try.func33 #[.slice dA bP.length dB,bQ,bO] ?_;(with_reducible refine (Z30.calls iF _ _ bP bQ bO fX jS _ ?side1 ?side2 mI.out).mono ?_);(case side1=>exact cB gN.out (bl HB.out));(case side2=>exact gO.out);rintro e w' ⟨rfl,⟨nd,rfl⟩⟩;refine ⟨_,rfl,?_⟩))
   go_cut [13] (fun mL wc=>∃ (kq:Nat) (eS:Bool),mL=.bool eS∧Aside0 (Z1.j1 kq a1 fD fX eS bJ aQ bP bH bI cY bQ bU bO bA=some (r1,r2,r3,r4))∧Aside0 (kq≤iF)∧Aside0 (Kd.S k46 46 wc w.heap.size (fun k_=>some k_≠((.slice bV bA.length bW):Value).ownBlock) gW fD)∧Aside0 (Kd.R Kd.bool 4 wc w.heap.size (fun _=>True) (.slice cE bH.length cG) bH)∧Aside0 (Kd.S k42 42 wc w.heap.size (fun _=>True) (.slice cH bI.length cK) bI)∧Aside0 (Kd.R k72 72 wc w.heap.size (fun _=>True) (.slice dX cY.length dY) cY)∧Aside0 (Kd.R (Kd.int .u8) 5 wc w.heap.size (fun _=>True) (.slice bV bA.length bW) bA)∧Aside0 (wc.heap[bG]?=some (.cells #[(.slice dJ bJ.length dK),(.slice (some bD) aQ.length dL),(.slice dA bP.length dB)] 28 (0,0)))∧Aside0 (wc.heap[bK]?=some (.cells #[dC,dD,dE,(.slice dZ cX.length eA)] 30 (0,0)))∧Aside0 (wc.heap[aX]?=some (.cells #[(.slice none 0 0),(.slice none 0 0),(.slice none 0 0)] 28 (0,0)))∧Aside0 (wc.heap[bT]?=some (.cells #[(.slice cE bH.length cG),(.slice cH bI.length cK),(.slice dX cY.length dY)] 28 (0,0)))∧Aside0 (wc.heap[aJ]?=some (.cells #[bQ,bU,bO,(.slice bV bA.length bW)] 30 (0,0)))∧Aside0 (Below w.heap.size w wc))
   case first =>
    have H:=iX.out;clear iX
    by_cases iA:jS=true
    case neg =>
     replace iA:=Bool.eq_false_iff.mpr iA;subst iA;replace H:=hF H;have H':=aM H;clear H;go_wp2
     go_meet
     case rel=>skip;exact ⟨_,(false),xE,H',⟨by have:=HJ4.out;omega⟩,⟨ks (sT4 aW.out aD.out (.int .i64 bQ) (.int .i64 bU) (.int .i64 bO) (.slice bV bA.length bW))⟩,⟨kr (Kd.R_mono (rT4 aE.out aD.out (.int .i64 bQ) (.int .i64 bU) (.int .i64 bO) (.slice bV bA.length bW)) (fun _ hk=>trivial))⟩,⟨ks (Kd.S_mono (sT4 aG.out aD.out (.int .i64 bQ) (.int .i64 bU) (.int .i64 bO) (.slice bV bA.length bW)) (fun _ hk=>trivial))⟩,⟨kr (Kd.R_mono (rT4 aH.out aD.out (.int .i64 bQ) (.int .i64 bU) (.int .i64 bO) (.slice bV bA.length bW)) (fun _ hk=>trivial))⟩,⟨kr (Kd.R_mono (rT4 eM.out aD.out (.int .i64 bQ) (.int .i64 bU) (.int .i64 bO) (.slice bV bA.length bW)) (fun _ hk=>trivial))⟩,⟨fm aA.out⟩,⟨fm aC.out⟩,⟨fm aI.out⟩,⟨fm aK.out⟩,⟨bm aD.out⟩,⟨bl HB.out⟩⟩
    subst iA;replace H:=hP H rfl;have H':=aM H;clear H;go_wp2
    go_meet
    case rel=>skip;exact ⟨_,((bQ != 0)),xE,H',⟨by have:=HJ4.out;omega⟩,⟨ks (sT4 aW.out aD.out (.int .i64 bQ) (.int .i64 bU) (.int .i64 bO) (.slice bV bA.length bW))⟩,⟨kr (Kd.R_mono (rT4 aE.out aD.out (.int .i64 bQ) (.int .i64 bU) (.int .i64 bO) (.slice bV bA.length bW)) (fun _ hk=>trivial))⟩,⟨ks (Kd.S_mono (sT4 aG.out aD.out (.int .i64 bQ) (.int .i64 bU) (.int .i64 bO) (.slice bV bA.length bW)) (fun _ hk=>trivial))⟩,⟨kr (Kd.R_mono (rT4 aH.out aD.out (.int .i64 bQ) (.int .i64 bU) (.int .i64 bO) (.slice bV bA.length bW)) (fun _ hk=>trivial))⟩,⟨kr (Kd.R_mono (rT4 eM.out aD.out (.int .i64 bQ) (.int .i64 bU) (.int .i64 bO) (.slice bV bA.length bW)) (fun _ hk=>trivial))⟩,⟨fm aA.out⟩,⟨fm aC.out⟩,⟨fm aI.out⟩,⟨fm aK.out⟩,⟨bm aD.out⟩,⟨bl HB.out⟩⟩
   case rest =>
    clear iX
    repeat first|clear iJ|clear iK|clear fV|clear fW
    obtain ⟨kq,eS,rfl,HA,HJ58,aW,aE,aG,aH,aN,aA,aC,aI,aK,aD,HB⟩:=hcut;cases kq with
    | zero=>exact absurd HA.out (by simp [Z1.j1])
    | succ iY =>
     have H:=HA.out;clear HA;simp only [Z1.j1] at H;obtain ⟨cW,jV,H⟩:=hB H;have mM:=aM jV;clear jV;have H':=aM H;clear H;have uE:=cA3 aA.out;have uL:=cA4 aD.out;go_wp2_with (((with_reducible refine gC (f:=34) rfl ?_);refine gL (some 79) Try.func34 #[.slice dA bP.length dB,bU,bO,a1] ?_;(with_reducible refine (Z4.calls iY _ _ bP bU bO a1 cW _ ?side1 ?side2 mM.out).mono ?_);(case side1=>exact cM (cB gN.out HB.out));(case side2=>exact gO.out);rintro e xJ ⟨vN,rfl,ho0,hb⟩;refine ⟨_,rfl,?_⟩;have jG:=aM (Kd.R_lower (Kd.R_new' ho0 (Kd.R_lt (kr aH.out))) (below_size (bl HB.out)));replace aW:=aM (Kd.S_below (ks aW.out) hb);replace aE:=rK aE hb;replace aG:=aM (Kd.S_below (ks aG.out) hb);replace aH:=aM (Kd.R_elder' (kr aH.out) (Kd.R_base ho0) hb);replace aN:=rK aN hb;replace aA:=rB aA hb;replace aC:=rB aC hb;replace aI:=rB aI hb;replace aK:=rB aK hb;replace aD:=rB aD hb;replace HB:=rS HB hb;(repeat first|clear hb|clear ho0);obtain ⟨eH,eI,lG⟩:=Kd.R_slice jG.out;subst lG;have uQ:=cA3 aK.out))
     go_loopg [9,14] iY (fun kq v9 mN w'=>∃ (eP:List (S46)) (aT:Int),mN=.int .i64 aT∧Aside0 (Z1.l0 kq a1 eP fX eS aT bJ aQ bP bH bI cW bQ bU bO bA=some (r1,r2,r3,r4))∧Aside0 (kq≤iY)∧Aside0 (Kd.S k46 46 w' w.heap.size (fun k_=>some k_≠((.slice bV bA.length bW):Value).ownBlock) v9 eP)∧Aside0 (Kd.R Kd.bool 4 w' w.heap.size (fun _=>True) (.slice cE bH.length cG) bH)∧Aside0 (Kd.S k42 42 w' w.heap.size (fun _=>True) (.slice cH bI.length cK) bI)∧Aside0 (Kd.R k72 72 w' w.heap.size (fun _=>True) (.slice eH cW.length eI) cW)∧Aside0 (Kd.R (Kd.int .u8) 5 w' w.heap.size (fun _=>True) (.slice bV bA.length bW) bA)∧Aside0 (w'.heap[bG]?=some (.cells #[(.slice dJ bJ.length dK),(.slice (some bD) aQ.length dL),(.slice dA bP.length dB)] 28 (0,0)))∧Aside0 (w'.heap[bK]?=some (.cells #[dC,dD,dE,(.slice dZ cX.length eA)] 30 (0,0)))∧Aside0 (w'.heap[aX]?=some (.cells #[(.slice none 0 0),(.slice none 0 0),(.slice none 0 0)] 28 (0,0)))∧Aside0 (w'.heap[bT]?=some (.cells #[(.slice cE bH.length cG),(.slice cH bI.length cK),(.slice eH cW.length eI)] 28 (0,0)))∧Aside0 (w'.heap[aJ]?=some (.cells #[bQ,bU,bO,(.slice bV bA.length bW)] 30 (0,0)))∧Aside0 (Below w.heap.size w w'))
     case atStart=>exact ⟨(fD),(0),xE,H',⟨Nat.le_refl _⟩,⟨ks (sU1 2 aW.out aK.out (.slice eH cW.length eI))⟩,⟨kr (Kd.R_mono (rU1 2 aE.out aK.out (.slice eH cW.length eI)) (fun _ hk=>trivial))⟩,⟨ks (Kd.S_mono (sU1 2 aG.out aK.out (.slice eH cW.length eI)) (fun _ hk=>trivial))⟩,⟨kr (Kd.R_mono (rU1 2 jG.out aK.out (.slice eH cW.length eI)) (fun _ hk=>trivial))⟩,⟨kr (Kd.R_mono (rU1 2 aN.out aK.out (.slice eH cW.length eI)) (fun _ hk=>trivial))⟩,⟨fm aA.out⟩,⟨fm aC.out⟩,⟨fm aI.out⟩,⟨by (with_reducible repeat (first|refine blk_drewN ?_ _|refine blk_drew ?_|refine blk_alloc ?_ _));refine blk_put (cs:=#[.slice cE bH.length cG,.slice cH bI.length cK,.slice dX cY.length dY]) ?_ 2 _ rfl;(with_reducible repeat (first|refine blk_drewN ?_ _|refine blk_drew ?_|refine blk_alloc ?_ _));exact aK.out⟩,⟨fm aD.out⟩,⟨bl HB.out⟩⟩
     case round =>
      clear H'
      repeat first|clear c2|clear p2|clear c3|clear c4|clear c5|clear c6|clear c7|clear p7|clear q7|clear c8|clear c9|clear kJ|clear kK|clear mO|clear hY|clear kL|clear iJ|clear kM|clear iK|clear hZ|clear kN|clear kO|clear kP|clear kQ|clear kR|clear jE|clear jF|clear kS|clear kT|clear iA|clear kU|clear kV|clear kW|clear kX|clear mP|clear mQ|clear mR|clear mS|clear mT|clear mU|clear mV|clear mW|clear mX|clear p2|clear p7|clear jE|clear fV|clear q7|clear jF|clear fW
      obtain ⟨eP,aT,rfl,HA,gQ,aW,aE,aG,aH,aN,aA,aC,aI,aK,aD,HB⟩:=hrel;cases gk with
      | zero=>exact absurd HA.out (by simp [Z1.l0])
      | succ k3 =>
       have H:=HA.out;clear HA;simp only [Z1.l0] at H
       by_cases iB:aT<(bJ.length:Int)
       case neg =>
        rw [if_neg iB] at H
        have jH:=decide_eq_false iB;clear iB;simp only [Option.some.injEq,Prod.mk.injEq] at H;obtain ⟨rfl,rfl,rfl,rfl⟩:=H;have nI:=cA3 aA.out;have nR:=cA3 aK.out;have oA:=cA3 aI.out;go_wp2
        refine bodyPost_ret (results_ct rfl _ _ aX 28 #[.slice cE bH.length cG,.slice cH bI.length cK,.slice eH cW.length eI] (0,0) _ rfl (bm aI.out) Try.underlying28 rfl (by kernel_rfl)) rfl ?_
        exact ⟨_,_,_,_,xW,by (with_reducible repeat (first|apply Kd.R_alloc|apply Kd.R_drewN|apply Kd.R_drew));exact Kd.R_mono (rT3 aE.out aI.out (.slice cE bH.length cG) (.slice cH bI.length cK) (.slice eH cW.length eI)) (fun _ hk=>trivial),ks (Kd.S_mono (sT3 aG.out aI.out (.slice cE bH.length cG) (.slice cH bI.length cK) (.slice eH cW.length eI)) (fun _ hk=>trivial)),by (with_reducible repeat (first|apply Kd.R_alloc|apply Kd.R_drewN|apply Kd.R_drew));exact Kd.R_mono (rT3 aH.out aI.out (.slice cE bH.length cG) (.slice cH bI.length cK) (.slice eH cW.length eI)) (fun _ hk=>trivial),ks (Kd.S_mono (sT3 aW.out aI.out (.slice cE bH.length cG) (.slice cH bI.length cK) (.slice eH cW.length eI)) (fun _ hk=>trivial)),bl HB.out⟩
       rw [if_pos iB] at H
       have jH:=decide_eq_true iB;clear iB;have iL:=aM H;clear H;have oJ:=cA3 aA.out;go_upto_region 14 with (fail)
       go_cut [106] (fun lH wc=>∃ (kq:Nat) (gP:Bool),lH=.bool gP∧Aside0 (Z1.j3 kq a1 eP fX eS aT gP bJ aQ bP bH bI cW bQ bU bO bA=some (r1,r2,r3,r4))∧Aside0 (kq≤k3)∧Aside0 (Kd.S k46 46 wc w.heap.size (fun k_=>some k_≠((.slice bV bA.length bW):Value).ownBlock) u9 eP)∧Aside0 (Kd.R Kd.bool 4 wc w.heap.size (fun _=>True) (.slice cE bH.length cG) bH)∧Aside0 (Kd.S k42 42 wc w.heap.size (fun _=>True) (.slice cH bI.length cK) bI)∧Aside0 (Kd.R k72 72 wc w.heap.size (fun _=>True) (.slice eH cW.length eI) cW)∧Aside0 (Kd.R (Kd.int .u8) 5 wc w.heap.size (fun _=>True) (.slice bV bA.length bW) bA)∧Aside0 (wc.heap[bG]?=some (.cells #[(.slice dJ bJ.length dK),(.slice (some bD) aQ.length dL),(.slice dA bP.length dB)] 28 (0,0)))∧Aside0 (wc.heap[bK]?=some (.cells #[dC,dD,dE,(.slice dZ cX.length eA)] 30 (0,0)))∧Aside0 (wc.heap[aX]?=some (.cells #[(.slice none 0 0),(.slice none 0 0),(.slice none 0 0)] 28 (0,0)))∧Aside0 (wc.heap[bT]?=some (.cells #[(.slice cE bH.length cG),(.slice cH bI.length cK),(.slice eH cW.length eI)] 28 (0,0)))∧Aside0 (wc.heap[aJ]?=some (.cells #[bQ,bU,bO,(.slice bV bA.length bW)] 30 (0,0)))∧Aside0 (Below w.heap.size w wc))
       case first =>
        have H:=iL.out;clear iL
        by_cases gK:aT=a1
        case pos =>
         rw [if_pos gK] at H
         have gA:(aT == a1)=true:=beq_iff_eq.mpr gK;clear gK
         (skip)
         have H':=aM H;clear H;go_wp2
         go_meet
         case rel=>skip;exact ⟨_,(true),xE,H',⟨by have:=HJ4.out;have:=HJ58.out;have:=gQ.out;omega⟩,⟨ks aW.out⟩,⟨kr aE.out⟩,⟨ks aG.out⟩,⟨kr aH.out⟩,⟨kr aN.out⟩,⟨bk aA.out⟩,⟨bk aC.out⟩,⟨bk aI.out⟩,⟨bk aK.out⟩,⟨bk aD.out⟩,⟨bl HB.out⟩⟩
        rw [if_neg gK] at H
        have gA:(aT == a1)=false:=beq_eq_false_iff_ne.mpr gK
        (skip)
        obtain ⟨jW,H⟩:=gI H;obtain ⟨jI,hbq108⟩:∃ b_:Bool,b_=(rdOf false bJ aT):=⟨_,rfl⟩;replace H:(if jI=true then (if eS=true then (Z1.j3 k3 a1 eP fX eS aT (aT != fX) bJ aQ bP bH bI cW bQ bU bO bA) else (Z1.j3 k3 a1 eP fX eS aT false bJ aQ bP bH bI cW bQ bU bO bA)) else (Z1.j3 k3 a1 eP fX eS aT true bJ aQ bP bH bI cW bQ bU bO bA))=some (r1,r2,r3,r4):=by rw [← hbq108] at H;exact H
        have eJ:=aM hbq108;clear hbq108
        by_cases iC:jI=true
        case neg =>
         replace iC:=Bool.eq_false_iff.mpr iC;subst iC;replace H:=hF H;have H':=aM H;clear H;have fM:0≤(aT:Int):=dT;have fN:aT<(bJ.length:Int):=dT;obtain ⟨jJ,iD,eO⟩:=Kd.at_bool fT.out aT fM fN
         (try rw [← eJ.out] at eO)
         cases iD
         replace eO:=xB HB eO;replace fM:=eq_true fM;replace fN:=eq_true fN;go_wp2
         go_meet
         case rel=>skip;exact ⟨_,(true),xE,H',⟨by have:=HJ4.out;have:=HJ58.out;have:=gQ.out;omega⟩,⟨ks aW.out⟩,⟨kr aE.out⟩,⟨ks aG.out⟩,⟨kr aH.out⟩,⟨kr aN.out⟩,⟨bk aA.out⟩,⟨bk aC.out⟩,⟨bk aI.out⟩,⟨bk aK.out⟩,⟨bk aD.out⟩,⟨bl HB.out⟩⟩
        subst iC;replace H:=hP H rfl
        by_cases iE:eS=true
        case pos =>
         subst iE;replace H:=hP H rfl;have H':=aM H;clear H;have fM:0≤(aT:Int):=dT;have fN:aT<(bJ.length:Int):=dT;obtain ⟨jJ,iD,eO⟩:=Kd.at_bool fT.out aT fM fN
         (try rw [← eJ.out] at eO)
         cases iD
         replace eO:=xB HB eO;replace fM:=eq_true fM;replace fN:=eq_true fN;go_wp2
         go_meet
         case rel=>skip;exact ⟨_,((aT != fX)),xE,H',⟨by have:=HJ4.out;have:=HJ58.out;have:=gQ.out;omega⟩,⟨ks aW.out⟩,⟨kr aE.out⟩,⟨ks aG.out⟩,⟨kr aH.out⟩,⟨kr aN.out⟩,⟨bk aA.out⟩,⟨bk aC.out⟩,⟨bk aI.out⟩,⟨bk aK.out⟩,⟨bk aD.out⟩,⟨bl HB.out⟩⟩
        replace iE:=Bool.eq_false_iff.mpr iE;subst iE;replace H:=hF H;have H':=aM H;clear H;have fM:0≤(aT:Int):=dT;have fN:aT<(bJ.length:Int):=dT;obtain ⟨jJ,iD,eO⟩:=Kd.at_bool fT.out aT fM fN
        (try rw [← eJ.out] at eO)
        cases iD
        replace eO:=xB HB eO;replace fM:=eq_true fM;replace fN:=eq_true fN;go_wp2
        go_meet
        case rel=>skip;exact ⟨_,(false),xE,H',⟨by have:=HJ4.out;have:=HJ58.out;have:=gQ.out;omega⟩,⟨ks aW.out⟩,⟨kr aE.out⟩,⟨ks aG.out⟩,⟨kr aH.out⟩,⟨kr aN.out⟩,⟨bk aA.out⟩,⟨bk aC.out⟩,⟨bk aI.out⟩,⟨bk aK.out⟩,⟨bk aD.out⟩,⟨bl HB.out⟩⟩
       case rest =>
        clear iL
        repeat clear jH
        obtain ⟨kq,gP,rfl,HA,HJ99,aW,aE,aG,aH,aN,aA,aC,aI,aK,aD,HB⟩:=hcut;cases kq with
        | zero=>exact absurd HA.out (by simp [Z1.j3])
        | succ gM =>
         have H:=HA.out;clear HA;simp only [Z1.j3] at H
         by_cases iM:gP=true
         case pos =>
          subst iM;replace H:=hP H rfl;have H':=aM H;clear H;go_wp2
          go_roundg gM
          case measure=>have:=HJ4.out;have:=HJ58.out;have:=gQ.out;have:=HJ99.out;omega
          case rel=>skip;exact ⟨(eP),(wS aT),xE,H',⟨by have:=HJ4.out;have:=HJ58.out;have:=gQ.out;have:=HJ99.out;omega⟩,⟨ks aW.out⟩,⟨kr aE.out⟩,⟨ks aG.out⟩,⟨kr aH.out⟩,⟨kr aN.out⟩,⟨bk aA.out⟩,⟨bk aC.out⟩,⟨bk aI.out⟩,⟨bk aK.out⟩,⟨bk aD.out⟩,⟨bl HB.out⟩⟩
         replace iM:=Bool.eq_false_iff.mpr iM;subst iM;replace H:=hF H;obtain ⟨pM,H⟩:=gI H;obtain ⟨pN,H⟩:=gI H;obtain ⟨⟨eD,eE,eF,dW,lJ⟩,jK,H⟩:=hB H
         try dsimp only at H
         have iN:=aM jK;clear jK
         by_cases iO:lJ=true
         case neg =>
          replace iO:=Bool.eq_false_iff.mpr iO;subst iO;replace H:=hF H;have H':=aM H;clear H
          try go_wp2
          replace aW:=aM (Kd.S_drew aW.out);replace aE:=aM (Kd.R_drew aE.out);replace aG:=aM (Kd.S_drew aG.out);replace aH:=aM (Kd.R_drew aH.out);replace aN:=aM (Kd.R_drew aN.out);replace aA:=aM (blk_drew aA.out);replace aC:=aM (blk_drew aC.out);replace aI:=aM (blk_drew aI.out);replace aK:=aM (blk_drew aK.out);replace aD:=aM (blk_drew aD.out);replace HB:=aM (below_drew1 HB.out);have gR:0≤(aT:Int):=dT;have gS:aT<(aQ.length:Int):=dT;obtain ⟨iP,eT,eU,iZ,eX,eY,hl757_1,hi757_1⟩:=at_T42 fU.out aT gR gS;have dH:=eY;have dI:=eX;obtain rfl:bD=iP:=(by injection iZ)
          replace eX:=xB HB eX;replace eY:=xB HB eY;have fG:=aM hi757_1;have gB:=aM hl757_1;clear hi757_1 hl757_1;replace gR:=eq_true gR;replace gS:=eq_true gS;refine start_ (n:=13) (S:=fun w'=>cT3 w' bG (.slice dJ bJ.length dK) (.slice (some bD) aQ.length dL) (.slice dA bP.length dB) (cT4 w' aJ (.int .i64 bQ) (.int .i64 bU) (.int .i64 bO) (.slice bV bA.length bW) (w'.cell? (bD.add ((aT).toNat*2))=some ((rd_T42 aQ aT).f0)∧w'.cell? ⟨(bD.add ((aT).toNat*2)).block,(bD.add ((aT).toNat*2)).off+1,none⟩=some (.slice eT ((rd_T42 aQ aT).f1).length eU)))) (ds:=[]) (dn 13 0) (by kernel_rfl) rfl rfl ⟨cI aA.out 0,cI aA.out 1,cI aA.out 2,cI aD.out 0,cI aD.out 1,cI aD.out 2,cI aD.out 3,(xB HB dI :),(xB HB dH :)⟩ (fun hHeld=>?_);refine with_tabW Z1.tab15 Z1.bits15 (fun HT_ HW_=>?_)
          generalize wc.drew=wG at aW aE aG aH aN aA aC aI aK aD HB fG eX eY hHeld ⊢
          refine nY (N:=some 108) HT_ ?_;refine pZ 2 110 (bv 13 5) HT_ ?_;refine aZ 1 109 (bv 13 7) HT_ HW_ hHeld ?_;refine pZ 3 111 (bv 13 15) HT_ ?_;refine aZ 4 112 (bv 13 31) HT_ HW_ hHeld ?_;refine aZ 5 113 (bv 13 63) HT_ HW_ hHeld ?_;refine join_ (σ:=Value × Nat) 2 (bv 13 2047) (fun s_=>[(114,.tuple #[.agg #[eD,eE,eF,s_.1],.bool false]),(15,.pointer (some ⟨s_.2,0,none⟩)),(107,.tuple #[.agg #[eD,eE,eF,s_.1],.bool false]),(115,.agg #[eD,eE,eF,s_.1]),(116,.bool false)]) (fun s_ w'=>(w'.cell? ⟨bG,0,none⟩=some (.slice dJ bJ.length dK)∧w'.cell? ⟨bG,1,none⟩=some (.slice (some bD) aQ.length dL)∧w'.cell? ⟨bG,2,none⟩=some (.slice dA bP.length dB)∧w'.cell? ⟨aJ,0,none⟩=some bQ∧w'.cell? ⟨aJ,1,none⟩=some bU∧w'.cell? ⟨aJ,2,none⟩=some bO∧w'.cell? ⟨aJ,3,none⟩=some (.slice bV bA.length bW)∧w'.cell? (bD.add ((aT).toNat*2))=some ((rd_T42 aQ aT).f0)∧w'.cell? ⟨(bD.add ((aT).toNat*2)).block,(bD.add ((aT).toNat*2)).off+1,none⟩=some (.slice eT ((rd_T42 aQ aT).f1).length eU))∧(Kd.R (Kd.int .u8) 5 w' w.heap.size (fun k_=>some k_≠(.slice bV bA.length bW:Value).ownBlock) s_.1 dW)∧(Kd.R Kd.bool 4 w' w.heap.size (fun _=>True) (.slice cE bH.length cG) bH)∧(Kd.S k42 42 w' w.heap.size (fun _=>True) (.slice cH bI.length cK) bI)∧(Kd.R k72 72 w' w.heap.size (fun _=>True) (.slice eH cW.length eI) cW)∧(Kd.R (Kd.int .u8) 5 w' w.heap.size (fun k_=>some k_≠(s_.1:Value).ownBlock) (.slice bV bA.length bW) bA)∧(Kd.S k46 46 w' w.heap.size (fun k_=>some k_≠(s_.1:Value).ownBlock∧some k_≠(.slice bV bA.length bW:Value).ownBlock) u9 eP)∧(w'.heap[bG]?=some (.cells #[.slice dJ bJ.length dK,.slice (some bD) aQ.length dL,.slice dA bP.length dB] 28 (0,0)))∧(w'.heap[bK]?=some (.cells #[dC,dD,dE,.slice dZ cX.length eA] 30 (0,0)))∧(w'.heap[aX]?=some (.cells #[.slice none 0 0,.slice none 0 0,.slice none 0 0] 28 (0,0)))∧(w'.heap[bT]?=some (.cells #[.slice cE bH.length cG,.slice cH bI.length cK,.slice eH cW.length eI] 28 (0,0)))∧(w'.heap[aJ]?=some (.cells #[bQ,bU,bO,.slice bV bA.length bW] 30 (0,0)))∧(w'.heap[s_.2]?=some (.cells #[.int .i64 0,.int .i64 0,.int .i64 0,.slice none 0 0] 30 (0,0)))∧(w.heap.size≤s_.2)∧(w.heap.size≤s_.2)∧(bG≠s_.2)∧(s_.2≠bG)∧(bK≠s_.2)∧(s_.2≠bK)∧(aX≠s_.2)∧(s_.2≠aX)∧(bT≠s_.2)∧(s_.2≠bT)∧(aJ≠s_.2)∧(s_.2≠aJ)∧(Below w.heap.size w w')) ?_ ?_
          rotate_left
          ·intro hCont
           refine two_ (i:=6) (j:=10) (Ni:=some 114) (Nj:=some 15) (bv 13 127) (bv 13 1087) rfl rfl rfl rfl (two_of HT_.out (by kernel_rfl)) (by decide) (by decide) (fun K hK=>?_) (fun K hK=>?_)
           ·skip
            refine goes_ Try.func35 (by kernel_rfl) rfl #[.agg #[((rd_T42 aQ aT).f0),.slice eT ((rd_T42 aQ aT).f1).length eU],.agg #[bQ,bU,bO,.slice bV bA.length bW]] (by rfl) rfl rfl xR ?_
            with_reducible refine (Z28.calls gM ((rd_T42 aQ aT).f0) _ _ ((rd_T42 aQ aT).f1) bQ bU bO _ _ bA eD eE eF dW false _ ?side1 ?side2 ?side3 ?side4 iN.out).mono ?_
            (case side1=>exact cM (cB fG.out HB.out))
            (case side2=>exact gB.out)
            (case side3=>exact cM ((Kd.R_reads' aN.out).2.2))
            (case side4=>exact (Kd.R_reads' aN.out).2.1)
            rintro e lK ⟨fB,rfl,ho0,hb⟩;refine ⟨_,rfl,?_⟩;have eG:=aM (Kd.R_lower (Kd.R_new' ho0 (Kd.R_lt (kr aN.out))) (below_size (bl HB.out)));replace aW:=aM (Kd.S_elder' (ks aW.out) (Kd.R_base ho0) hb);replace aE:=rK aE hb;replace aG:=aM (Kd.S_below (ks aG.out) hb);replace aH:=rK aH hb;replace aN:=aM (Kd.R_elder' (kr aN.out) (Kd.R_base ho0) hb);replace aA:=rB aA hb;replace aC:=rB aC hb;replace aI:=rB aI hb;replace aK:=rB aK hb;replace aD:=rB aD hb;replace HB:=rS HB hb
            (try clear hb)
            (try clear ho0)
            refine hK.out _ _ ⟨cI aA.out 0,cI aA.out 1,cI aA.out 2,cI aD.out 0,cI aD.out 1,cI aD.out 2,cI aD.out 3,(xB HB dI :),(xB HB dH :)⟩ (fun hHeld=>?_)
            clear hK K;refine norm_ (a':=?_) ?_ ?_;rotate_left
            ·show Act.put _ (some 114) _=_
             simp only [Act.put,sA,sZ,sS,i64_w,i32_w]
             rfl
            refine pZ 7 107 (bv 13 255) HT_ ?_;refine pZ 8 115 (bv 13 511) HT_ ?_;refine pZ 9 116 (bv 13 1023) HT_ ?_;refine one_ (i:=10) (N:=some 15) (bv 13 2047) rfl rfl (one_of HT_.out (by kernel_rfl)) (by decide) (fun K hK=>?_)
            refine box_step ?hg (N:=15) ?hd (cs:=#[.int .i64 0,.int .i64 0,.int .i64 0,.slice none 0 0]) (t:=30) ?hr ?_;(case hd=>rfl);(case hg=>rfl);(case hr=>(go_simp;done))
            intro aV hg lL hbox hb;have bL:=aM (hbox);have dN:=gF hg HB;have fS:=gF hg HB;have cL:=nM hg aA;have cN:=nH hg aA;have cO:=nM hg aC;have cP:=nH hg aC;have cQ:=nM hg aI;have cR:=nH hg aI;have cS:=nM hg aK;have cT:=nH hg aK;have cU:=nM hg aD;have cV:=nH hg aD;replace aW:=aM (Kd.S_below (ks aW.out) hb);replace aE:=rK aE hb;replace aG:=aM (Kd.S_below (ks aG.out) hb);replace aH:=rK aH hb;replace aN:=rK aN hb;replace eG:=rK eG hb;replace aA:=rB aA hb;replace aC:=rB aC hb;replace aI:=rB aI hb;replace aK:=rB aK hb;replace aD:=rB aD hb;replace HB:=rS HB hb;clear hb hbox hg;refine hK.out _ _ ⟨cI aA.out 0,cI aA.out 1,cI aA.out 2,cI aD.out 0,cI aD.out 1,cI aD.out 2,cI aD.out 3,(xB HB dI :),(xB HB dH :)⟩ (fun hHeld=>?_)
            clear hK K;refine norm_ (a':=?_) ?_ ?_;rotate_left
            ·show Act.put _ (some 15) _=_
             simp only [Act.put,sA,sZ,sS,i64_w,i32_w]
             rfl
            exact norm_ (by simp only [putAll,Act.put,sA,sZ,sS]) (hCont (fB,aV) _ ⟨hHeld,(kr (Kd.R_mono eG.out (fun _ hk=>hk.2))),(kr aE.out),(ks aG.out),(kr aH.out),(kr (Kd.R_mono aN.out (fun _ hk=>hk.2))),(ks (Kd.S_mono aW.out (fun _ hk=>⟨hk.2,hk.1⟩))),(bk aA.out),(bk aC.out),(bk aI.out),(bk aK.out),(bk aD.out),(bk bL.out),dN.out,fS.out,cL.out,cN.out,cO.out,cP.out,cQ.out,cR.out,cS.out,cT.out,cU.out,cV.out,(bl HB.out)⟩)
           ·skip
            refine box_step ?hg (N:=15) ?hd (cs:=#[.int .i64 0,.int .i64 0,.int .i64 0,.slice none 0 0]) (t:=30) ?hr ?_;(case hd=>rfl);(case hg=>rfl);(case hr=>(go_simp;done))
            intro aV hg lK hbox hb;have bL:=aM (hbox);have dN:=gF hg HB;have fS:=gF hg HB;have cL:=nM hg aA;have cN:=nH hg aA;have cO:=nM hg aC;have cP:=nH hg aC;have cQ:=nM hg aI;have cR:=nH hg aI;have cS:=nM hg aK;have cT:=nH hg aK;have cU:=nM hg aD;have cV:=nH hg aD;replace aW:=aM (Kd.S_below (ks aW.out) hb);replace aE:=rK aE hb;replace aG:=aM (Kd.S_below (ks aG.out) hb);replace aH:=rK aH hb;replace aN:=rK aN hb;replace aA:=rB aA hb;replace aC:=rB aC hb;replace aI:=rB aI hb;replace aK:=rB aK hb;replace aD:=rB aD hb;replace HB:=rS HB hb;clear hb hbox hg;refine hK.out _ _ ⟨cI aA.out 0,cI aA.out 1,cI aA.out 2,cI aD.out 0,cI aD.out 1,cI aD.out 2,cI aD.out 3,(xB HB dI :),(xB HB dH :)⟩ (fun hHeld=>?_)
            clear hK K;refine norm_ (a':=?_) ?_ ?_;rotate_left
            ·show Act.put _ (some 15) _=_
             simp only [Act.put,sA,sZ,sS,i64_w,i32_w]
             rfl
            refine one_ (i:=6) (N:=some 114) (bv 13 1151) rfl rfl (one_of HT_.out (by kernel_rfl)) (by decide) (fun K hK=>?_)
            refine goes_ Try.func35 (by kernel_rfl) rfl #[.agg #[((rd_T42 aQ aT).f0),.slice eT ((rd_T42 aQ aT).f1).length eU],.agg #[bQ,bU,bO,.slice bV bA.length bW]] (by rfl) rfl rfl xR ?_
            with_reducible refine (Z28.calls gM ((rd_T42 aQ aT).f0) _ _ ((rd_T42 aQ aT).f1) bQ bU bO _ _ bA eD eE eF dW false _ ?side1 ?side2 ?side3 ?side4 iN.out).mono ?_
            (case side1=>exact cM (cB fG.out HB.out))
            (case side2=>exact gB.out)
            (case side3=>exact cM ((Kd.R_reads' aN.out).2.2))
            (case side4=>exact (Kd.R_reads' aN.out).2.1)
            rintro e lL ⟨fB,rfl,ho0,hb⟩;refine ⟨_,rfl,?_⟩;have eG:=aM (Kd.R_lower (Kd.R_new' ho0 (Kd.R_lt (kr aN.out))) (below_size (bl HB.out)));replace aW:=aM (Kd.S_elder' (ks aW.out) (Kd.R_base ho0) hb);replace aE:=rK aE hb;replace aG:=aM (Kd.S_below (ks aG.out) hb);replace aH:=rK aH hb;replace aN:=aM (Kd.R_elder' (kr aN.out) (Kd.R_base ho0) hb);replace aA:=rB aA hb;replace aC:=rB aC hb;replace aI:=rB aI hb;replace aK:=rB aK hb;replace aD:=rB aD hb;replace bL:=rB bL hb;replace HB:=rS HB hb
            (try clear hb)
            (try clear ho0)
            refine hK.out _ _ ⟨cI aA.out 0,cI aA.out 1,cI aA.out 2,cI aD.out 0,cI aD.out 1,cI aD.out 2,cI aD.out 3,(xB HB dI :),(xB HB dH :)⟩ (fun hHeld=>?_)
            clear hK K;refine norm_ (a':=?_) ?_ ?_;rotate_left
            ·show Act.put _ (some 114) _=_
             simp only [Act.put,sA,sZ,sS,i64_w,i32_w]
             rfl
            refine pZ 7 107 (bv 13 1279) HT_ ?_;refine pZ 8 115 (bv 13 1535) HT_ ?_;refine pZ 9 116 (bv 13 2047) HT_ ?_;exact norm_ (by simp only [putAll,Act.put,sA,sZ,sS]) (hCont (fB,aV) _ ⟨hHeld,(kr (Kd.R_mono eG.out (fun _ hk=>hk.2))),(kr aE.out),(ks aG.out),(kr aH.out),(kr (Kd.R_mono aN.out (fun _ hk=>hk.2))),(ks (Kd.S_mono aW.out (fun _ hk=>⟨hk.2,hk.1⟩))),(bk aA.out),(bk aC.out),(bk aI.out),(bk aK.out),(bk aD.out),(bk bL.out),dN.out,fS.out,cL.out,cN.out,cO.out,cP.out,cQ.out,cR.out,cS.out,cT.out,cU.out,cV.out,(bl HB.out)⟩)
          rintro ⟨fB,aV⟩ eK ⟨hS_,h0_,h1_,h2_,h3_,h4_,h5_,h6_,h7_,h8_,h9_,h10_,h11_,h12_,h13_,h14_,h15_,h16_,h17_,h18_,h19_,h20_,h21_,h22_,h23_,h24_⟩;have eG:Aside0 (Kd.R (Kd.int .u8) 5 eK w.heap.size (fun k_=>some k_≠(.slice bV bA.length bW:Value).ownBlock) fB dW):=⟨h0_⟩
          have bL:Aside0 (eK.heap[aV]?=some (.cells #[.int .i64 0,.int .i64 0,.int .i64 0,.slice none 0 0] 30 (0,0))):=⟨h11_⟩;have dN:Aside0 (w.heap.size≤aV):=⟨h12_⟩;have fS:Aside0 (w.heap.size≤aV):=⟨h13_⟩;have cL:Aside0 (bG≠aV):=⟨h14_⟩;have cN:Aside0 (aV≠bG):=⟨h15_⟩;have cO:Aside0 (bK≠aV):=⟨h16_⟩;have cP:Aside0 (aV≠bK):=⟨h17_⟩;have cQ:Aside0 (aX≠aV):=⟨h18_⟩;have cR:Aside0 (aV≠aX):=⟨h19_⟩;have cS:Aside0 (bT≠aV):=⟨h20_⟩;have cT:Aside0 (aV≠bT):=⟨h21_⟩;have cU:Aside0 (aJ≠aV):=⟨h22_⟩;have cV:Aside0 (aV≠aJ):=⟨h23_⟩;replace aE:Aside0 (Kd.R Kd.bool 4 eK w.heap.size (fun _=>True) (.slice cE bH.length cG) bH):=⟨h1_⟩
          replace aG:Aside0 (Kd.S k42 42 eK w.heap.size (fun _=>True) (.slice cH bI.length cK) bI):=⟨h2_⟩
          replace aH:Aside0 (Kd.R k72 72 eK w.heap.size (fun _=>True) (.slice eH cW.length eI) cW):=⟨h3_⟩
          replace aN:Aside0 (Kd.R (Kd.int .u8) 5 eK w.heap.size (fun k_=>some k_≠(fB:Value).ownBlock) (.slice bV bA.length bW) bA):=⟨h4_⟩
          replace aW:Aside0 (Kd.S k46 46 eK w.heap.size (fun k_=>some k_≠(fB:Value).ownBlock∧some k_≠(.slice bV bA.length bW:Value).ownBlock) u9 eP):=⟨h5_⟩
          replace aA:Aside0 (eK.heap[bG]?=some (.cells #[.slice dJ bJ.length dK,.slice (some bD) aQ.length dL,.slice dA bP.length dB] 28 (0,0))):=⟨h6_⟩;replace aC:Aside0 (eK.heap[bK]?=some (.cells #[dC,dD,dE,.slice dZ cX.length eA] 30 (0,0))):=⟨h7_⟩;replace aI:Aside0 (eK.heap[aX]?=some (.cells #[.slice none 0 0,.slice none 0 0,.slice none 0 0] 28 (0,0))):=⟨h8_⟩;replace aK:Aside0 (eK.heap[bT]?=some (.cells #[.slice cE bH.length cG,.slice cH bI.length cK,.slice eH cW.length eI] 28 (0,0))):=⟨h9_⟩;replace aD:Aside0 (eK.heap[aJ]?=some (.cells #[bQ,bU,bO,.slice bV bA.length bW] 30 (0,0))):=⟨h10_⟩;replace HB:Aside0 (Below w.heap.size w eK):=⟨h24_⟩;clear h0_ h1_ h2_ h3_ h4_ h5_ h6_ h7_ h8_ h9_ h10_ h11_ h12_ h13_ h14_ h15_ h16_ h17_ h18_ h19_ h20_ h21_ h22_ h23_ h24_;have hHeld:eK.cell? ⟨bG,0,none⟩=some (.slice dJ bJ.length dK)∧eK.cell? ⟨bG,1,none⟩=some (.slice (some bD) aQ.length dL)∧eK.cell? ⟨bG,2,none⟩=some (.slice dA bP.length dB)∧eK.cell? ⟨aJ,0,none⟩=some bQ∧eK.cell? ⟨aJ,1,none⟩=some bU∧eK.cell? ⟨aJ,2,none⟩=some bO∧eK.cell? ⟨aJ,3,none⟩=some (.slice bV bA.length bW)∧eK.cell? (bD.add ((aT).toNat*2))=some ((rd_T42 aQ aT).f0)∧eK.cell? ⟨(bD.add ((aT).toNat*2)).block,(bD.add ((aT).toNat*2)).off+1,none⟩=some (.slice eT ((rd_T42 aQ aT).f1).length eU):=hS_;obtain ⟨gT,gU,jL⟩:=Kd.R_slice eG.out
          (subst jL)
          refine norm_ (a':=?_) ?_ ?_;rotate_left
          ·simp only [putAll,Act.put,sA,sZ,sS]
           rfl
          refine one_ (i:=11) (N:=none) (bv 13 4095) rfl rfl (one_of HT_.out (by kernel_rfl)) (by decide) (fun K hK=>?_)
          have uR:=cI bL.out 0;have hfs153:=bF bL.out 0;have uS:=cI bL.out 1;have hfs154:=bF bL.out 1;have uT:=cI bL.out 2;have hfs155:=bF bL.out 2;have uU:=cI bL.out 3;have hfs157:=bF bL.out 3;refine skip_ (w1:=?_) (by rfl) rfl ?_ ?_
          rotate_left
          ·go_simp
           rfl
          refine hK.out _ _ ⟨(cm (hHeld.1)),(cm (hHeld.2.1)),(cm (hHeld.2.2.1)),(cm (hHeld.2.2.2.1)),(cm (hHeld.2.2.2.2.1)),(cm (hHeld.2.2.2.2.2.1)),(cm (hHeld.2.2.2.2.2.2.1)),((cF dI dN.out).trans (((cF dI dN.out).trans (((cF dI dN.out).trans (((cF dI dN.out).trans (hHeld.2.2.2.2.2.2.2.1)))))))),((cF dH dN.out).trans (((cF dH dN.out).trans (((cF dH dN.out).trans (((cF dH dN.out).trans (hHeld.2.2.2.2.2.2.2.2))))))))⟩ (fun hHeld=>?_)
          clear hK K;refine pZ 12 16 (bv 13 8191) HT_ ?_;refine done_ (done_of HT_.out (by kernel_rfl)) ?_
          try go_wp2
          go_roundg gM
          case measure=>have:=HJ4.out;have:=HJ58.out;have:=gQ.out;have:=HJ99.out;omega
          case rel=>skip;exact ⟨(eP),(wS aT),xE,H',⟨by have:=HJ4.out;have:=HJ58.out;have:=gQ.out;have:=HJ99.out;omega⟩,⟨ks (Kd.S_mono (sF4 (g:=aV) (Kd.S_types aW.out bL.out (by decide)) (fun _ hk=>hk.2) (.int .i64 eD) (.int .i64 eE) (.int .i64 eF) (.slice gT dW.length gU)) (fun _ hk=>hk.1.2))⟩,⟨kr (Kd.R_mono (rT4 aE.out bL.out (.int .i64 eD) (.int .i64 eE) (.int .i64 eF) (.slice gT dW.length gU)) (fun _ hk=>trivial))⟩,⟨ks (Kd.S_mono (sT4 aG.out bL.out (.int .i64 eD) (.int .i64 eE) (.int .i64 eF) (.slice gT dW.length gU)) (fun _ hk=>trivial))⟩,⟨kr (Kd.R_mono (rT4 aH.out bL.out (.int .i64 eD) (.int .i64 eE) (.int .i64 eF) (.slice gT dW.length gU)) (fun _ hk=>trivial))⟩,⟨kr (Kd.R_mono (rT4 aN.out bL.out (.int .i64 eD) (.int .i64 eE) (.int .i64 eF) (.slice gT dW.length gU)) (fun _ hk=>trivial))⟩,⟨fm aA.out⟩,⟨fm aC.out⟩,⟨fm aI.out⟩,⟨fm aK.out⟩,⟨fm aD.out⟩,⟨bl HB.out⟩⟩
         subst iO;replace H:=hP H rfl
         by_cases iQ:eP.length<2513169434916
         case neg =>
          rw [if_neg iQ] at H
          exact absurd H (by simp)
         rw [if_pos iQ] at H
         have LMc131:=aM iQ;clear iQ;obtain ⟨jX,gV⟩:∃ y_:List (S46),y_=(eP++[(⟨aT,(⟨eD,eE,eF,dW⟩:S30)⟩:S46)]):=⟨_,rfl⟩;replace H:(Z1.l0 gM a1 jX fX eS (wS aT) bJ aQ bP bH bI cW bQ bU bO bA)=some (r1,r2,r3,r4):=by (rw [gV];with_reducible exact H)
         have jZ:=aM gV;clear gV;have H':=aM H;clear H
         try go_wp2
         replace aW:=aM (Kd.S_drew aW.out);replace aE:=aM (Kd.R_drew aE.out);replace aG:=aM (Kd.S_drew aG.out);replace aH:=aM (Kd.R_drew aH.out);replace aN:=aM (Kd.R_drew aN.out);replace aA:=aM (blk_drew aA.out);replace aC:=aM (blk_drew aC.out);replace aI:=aM (blk_drew aI.out);replace aK:=aM (blk_drew aK.out);replace aD:=aM (blk_drew aD.out);replace HB:=aM (below_drew1 HB.out);have gR:0≤(aT:Int):=dT;have gS:aT<(aQ.length:Int):=dT;obtain ⟨iP,eT,eU,iZ,eX,eY,hl757_1,hi757_1⟩:=at_T42 fU.out aT gR gS;have dH:=eY;have dI:=eX;obtain rfl:bD=iP:=(by injection iZ)
         replace eX:=xB HB eX;replace eY:=xB HB eY;have fG:=aM hi757_1;have gB:=aM hl757_1;clear hi757_1 hl757_1;replace gR:=eq_true gR;replace gS:=eq_true gS;refine start_ (n:=13) (S:=fun w'=>cT3 w' bG (.slice dJ bJ.length dK) (.slice (some bD) aQ.length dL) (.slice dA bP.length dB) (cT4 w' aJ (.int .i64 bQ) (.int .i64 bU) (.int .i64 bO) (.slice bV bA.length bW) (w'.cell? (bD.add ((aT).toNat*2))=some ((rd_T42 aQ aT).f0)∧w'.cell? ⟨(bD.add ((aT).toNat*2)).block,(bD.add ((aT).toNat*2)).off+1,none⟩=some (.slice eT ((rd_T42 aQ aT).f1).length eU)))) (ds:=[]) (dn 13 0) (by kernel_rfl) rfl rfl ⟨cI aA.out 0,cI aA.out 1,cI aA.out 2,cI aD.out 0,cI aD.out 1,cI aD.out 2,cI aD.out 3,(xB HB dI :),(xB HB dH :)⟩ (fun hHeld=>?_);refine with_tabW Z1.tab15 Z1.bits15 (fun HT_ HW_=>?_)
         generalize wc.drew=wH at aW aE aG aH aN aA aC aI aK aD HB fG eX eY hHeld ⊢
         refine nY (N:=some 108) HT_ ?_;refine pZ 2 110 (bv 13 5) HT_ ?_;refine aZ 1 109 (bv 13 7) HT_ HW_ hHeld ?_;refine pZ 3 111 (bv 13 15) HT_ ?_;refine aZ 4 112 (bv 13 31) HT_ HW_ hHeld ?_;refine aZ 5 113 (bv 13 63) HT_ HW_ hHeld ?_;refine join_ (σ:=Value × Nat) 2 (bv 13 2047) (fun s_=>[(114,.tuple #[.agg #[eD,eE,eF,s_.1],.bool true]),(15,.pointer (some ⟨s_.2,0,none⟩)),(107,.tuple #[.agg #[eD,eE,eF,s_.1],.bool true]),(115,.agg #[eD,eE,eF,s_.1]),(116,.bool true)]) (fun s_ w'=>(w'.cell? ⟨bG,0,none⟩=some (.slice dJ bJ.length dK)∧w'.cell? ⟨bG,1,none⟩=some (.slice (some bD) aQ.length dL)∧w'.cell? ⟨bG,2,none⟩=some (.slice dA bP.length dB)∧w'.cell? ⟨aJ,0,none⟩=some bQ∧w'.cell? ⟨aJ,1,none⟩=some bU∧w'.cell? ⟨aJ,2,none⟩=some bO∧w'.cell? ⟨aJ,3,none⟩=some (.slice bV bA.length bW)∧w'.cell? (bD.add ((aT).toNat*2))=some ((rd_T42 aQ aT).f0)∧w'.cell? ⟨(bD.add ((aT).toNat*2)).block,(bD.add ((aT).toNat*2)).off+1,none⟩=some (.slice eT ((rd_T42 aQ aT).f1).length eU))∧(Kd.R (Kd.int .u8) 5 w' w.heap.size (fun k_=>some k_≠(.slice bV bA.length bW:Value).ownBlock) s_.1 dW)∧(Kd.R Kd.bool 4 w' w.heap.size (fun _=>True) (.slice cE bH.length cG) bH)∧(Kd.S k42 42 w' w.heap.size (fun _=>True) (.slice cH bI.length cK) bI)∧(Kd.R k72 72 w' w.heap.size (fun _=>True) (.slice eH cW.length eI) cW)∧(Kd.R (Kd.int .u8) 5 w' w.heap.size (fun k_=>some k_≠(s_.1:Value).ownBlock) (.slice bV bA.length bW) bA)∧(Kd.S k46 46 w' w.heap.size (fun k_=>some k_≠(s_.1:Value).ownBlock∧some k_≠(.slice bV bA.length bW:Value).ownBlock) u9 eP)∧(w'.heap[bG]?=some (.cells #[.slice dJ bJ.length dK,.slice (some bD) aQ.length dL,.slice dA bP.length dB] 28 (0,0)))∧(w'.heap[bK]?=some (.cells #[dC,dD,dE,.slice dZ cX.length eA] 30 (0,0)))∧(w'.heap[aX]?=some (.cells #[.slice none 0 0,.slice none 0 0,.slice none 0 0] 28 (0,0)))∧(w'.heap[bT]?=some (.cells #[.slice cE bH.length cG,.slice cH bI.length cK,.slice eH cW.length eI] 28 (0,0)))∧(w'.heap[aJ]?=some (.cells #[bQ,bU,bO,.slice bV bA.length bW] 30 (0,0)))∧(w'.heap[s_.2]?=some (.cells #[.int .i64 0,.int .i64 0,.int .i64 0,.slice none 0 0] 30 (0,0)))∧(w.heap.size≤s_.2)∧(w.heap.size≤s_.2)∧(bG≠s_.2)∧(s_.2≠bG)∧(bK≠s_.2)∧(s_.2≠bK)∧(aX≠s_.2)∧(s_.2≠aX)∧(bT≠s_.2)∧(s_.2≠bT)∧(aJ≠s_.2)∧(s_.2≠aJ)∧(Below w.heap.size w w')) ?_ ?_
         rotate_left
         ·intro hCont
          refine two_ (i:=6) (j:=10) (Ni:=some 114) (Nj:=some 15) (bv 13 127) (bv 13 1087) rfl rfl rfl rfl (two_of HT_.out (by kernel_rfl)) (by decide) (by decide) (fun K hK=>?_) (fun K hK=>?_)
          ·skip
           refine goes_ Try.func35 (by kernel_rfl) rfl #[.agg #[((rd_T42 aQ aT).f0),.slice eT ((rd_T42 aQ aT).f1).length eU],.agg #[bQ,bU,bO,.slice bV bA.length bW]] (by rfl) rfl rfl xR ?_
           with_reducible refine (Z28.calls gM ((rd_T42 aQ aT).f0) _ _ ((rd_T42 aQ aT).f1) bQ bU bO _ _ bA eD eE eF dW true _ ?side1 ?side2 ?side3 ?side4 iN.out).mono ?_
           (case side1=>exact cM (cB fG.out HB.out))
           (case side2=>exact gB.out)
           (case side3=>exact cM ((Kd.R_reads' aN.out).2.2))
           (case side4=>exact (Kd.R_reads' aN.out).2.1)
           rintro e lM ⟨fB,rfl,ho0,hb⟩;refine ⟨_,rfl,?_⟩;have eG:=aM (Kd.R_lower (Kd.R_new' ho0 (Kd.R_lt (kr aN.out))) (below_size (bl HB.out)));replace aW:=aM (Kd.S_elder' (ks aW.out) (Kd.R_base ho0) hb);replace aE:=rK aE hb;replace aG:=aM (Kd.S_below (ks aG.out) hb);replace aH:=rK aH hb;replace aN:=aM (Kd.R_elder' (kr aN.out) (Kd.R_base ho0) hb);replace aA:=rB aA hb;replace aC:=rB aC hb;replace aI:=rB aI hb;replace aK:=rB aK hb;replace aD:=rB aD hb;replace HB:=rS HB hb
           (try clear hb)
           (try clear ho0)
           refine hK.out _ _ ⟨cI aA.out 0,cI aA.out 1,cI aA.out 2,cI aD.out 0,cI aD.out 1,cI aD.out 2,cI aD.out 3,(xB HB dI :),(xB HB dH :)⟩ (fun hHeld=>?_)
           clear hK K;refine norm_ (a':=?_) ?_ ?_;rotate_left
           ·show Act.put _ (some 114) _=_
            simp only [Act.put,sA,sZ,sS,i64_w,i32_w]
            rfl
           refine pZ 7 107 (bv 13 255) HT_ ?_;refine pZ 8 115 (bv 13 511) HT_ ?_;refine pZ 9 116 (bv 13 1023) HT_ ?_;refine one_ (i:=10) (N:=some 15) (bv 13 2047) rfl rfl (one_of HT_.out (by kernel_rfl)) (by decide) (fun K hK=>?_)
           refine box_step ?hg (N:=15) ?hd (cs:=#[.int .i64 0,.int .i64 0,.int .i64 0,.slice none 0 0]) (t:=30) ?hr ?_;(case hd=>rfl);(case hg=>rfl);(case hr=>(go_simp;done))
           intro aV hg lO hbox hb;have bL:=aM (hbox);have dN:=gF hg HB;have fS:=gF hg HB;have cL:=nM hg aA;have cN:=nH hg aA;have cO:=nM hg aC;have cP:=nH hg aC;have cQ:=nM hg aI;have cR:=nH hg aI;have cS:=nM hg aK;have cT:=nH hg aK;have cU:=nM hg aD;have cV:=nH hg aD;replace aW:=aM (Kd.S_below (ks aW.out) hb);replace aE:=rK aE hb;replace aG:=aM (Kd.S_below (ks aG.out) hb);replace aH:=rK aH hb;replace aN:=rK aN hb;replace eG:=rK eG hb;replace aA:=rB aA hb;replace aC:=rB aC hb;replace aI:=rB aI hb;replace aK:=rB aK hb;replace aD:=rB aD hb;replace HB:=rS HB hb;clear hb hbox hg;refine hK.out _ _ ⟨cI aA.out 0,cI aA.out 1,cI aA.out 2,cI aD.out 0,cI aD.out 1,cI aD.out 2,cI aD.out 3,(xB HB dI :),(xB HB dH :)⟩ (fun hHeld=>?_)
           clear hK K;refine norm_ (a':=?_) ?_ ?_;rotate_left
           ·show Act.put _ (some 15) _=_
            simp only [Act.put,sA,sZ,sS,i64_w,i32_w]
            rfl
           exact norm_ (by simp only [putAll,Act.put,sA,sZ,sS]) (hCont (fB,aV) _ ⟨hHeld,(kr (Kd.R_mono eG.out (fun _ hk=>hk.2))),(kr aE.out),(ks aG.out),(kr aH.out),(kr (Kd.R_mono aN.out (fun _ hk=>hk.2))),(ks (Kd.S_mono aW.out (fun _ hk=>⟨hk.2,hk.1⟩))),(bk aA.out),(bk aC.out),(bk aI.out),(bk aK.out),(bk aD.out),(bk bL.out),dN.out,fS.out,cL.out,cN.out,cO.out,cP.out,cQ.out,cR.out,cS.out,cT.out,cU.out,cV.out,(bl HB.out)⟩)
          ·skip
           refine box_step ?hg (N:=15) ?hd (cs:=#[.int .i64 0,.int .i64 0,.int .i64 0,.slice none 0 0]) (t:=30) ?hr ?_;(case hd=>rfl);(case hg=>rfl);(case hr=>(go_simp;done))
           intro aV hg lM hbox hb;have bL:=aM (hbox);have dN:=gF hg HB;have fS:=gF hg HB;have cL:=nM hg aA;have cN:=nH hg aA;have cO:=nM hg aC;have cP:=nH hg aC;have cQ:=nM hg aI;have cR:=nH hg aI;have cS:=nM hg aK;have cT:=nH hg aK;have cU:=nM hg aD;have cV:=nH hg aD;replace aW:=aM (Kd.S_below (ks aW.out) hb);replace aE:=rK aE hb;replace aG:=aM (Kd.S_below (ks aG.out) hb);replace aH:=rK aH hb;replace aN:=rK aN hb;replace aA:=rB aA hb;replace aC:=rB aC hb;replace aI:=rB aI hb;replace aK:=rB aK hb;replace aD:=rB aD hb;replace HB:=rS HB hb;clear hb hbox hg;refine hK.out _ _ ⟨cI aA.out 0,cI aA.out 1,cI aA.out 2,cI aD.out 0,cI aD.out 1,cI aD.out 2,cI aD.out 3,(xB HB dI :),(xB HB dH :)⟩ (fun hHeld=>?_)
           clear hK K;refine norm_ (a':=?_) ?_ ?_;rotate_left
           ·show Act.put _ (some 15) _=_
            simp only [Act.put,sA,sZ,sS,i64_w,i32_w]
            rfl
           refine one_ (i:=6) (N:=some 114) (bv 13 1151) rfl rfl (one_of HT_.out (by kernel_rfl)) (by decide) (fun K hK=>?_)
           refine goes_ Try.func35 (by kernel_rfl) rfl #[.agg #[((rd_T42 aQ aT).f0),.slice eT ((rd_T42 aQ aT).f1).length eU],.agg #[bQ,bU,bO,.slice bV bA.length bW]] (by rfl) rfl rfl xR ?_
           with_reducible refine (Z28.calls gM ((rd_T42 aQ aT).f0) _ _ ((rd_T42 aQ aT).f1) bQ bU bO _ _ bA eD eE eF dW true _ ?side1 ?side2 ?side3 ?side4 iN.out).mono ?_
           (case side1=>exact cM (cB fG.out HB.out))
           (case side2=>exact gB.out)
           (case side3=>exact cM ((Kd.R_reads' aN.out).2.2))
           (case side4=>exact (Kd.R_reads' aN.out).2.1)
           rintro e lO ⟨fB,rfl,ho0,hb⟩;refine ⟨_,rfl,?_⟩;have eG:=aM (Kd.R_lower (Kd.R_new' ho0 (Kd.R_lt (kr aN.out))) (below_size (bl HB.out)));replace aW:=aM (Kd.S_elder' (ks aW.out) (Kd.R_base ho0) hb);replace aE:=rK aE hb;replace aG:=aM (Kd.S_below (ks aG.out) hb);replace aH:=rK aH hb;replace aN:=aM (Kd.R_elder' (kr aN.out) (Kd.R_base ho0) hb);replace aA:=rB aA hb;replace aC:=rB aC hb;replace aI:=rB aI hb;replace aK:=rB aK hb;replace aD:=rB aD hb;replace bL:=rB bL hb;replace HB:=rS HB hb
           (try clear hb)
           (try clear ho0)
           refine hK.out _ _ ⟨cI aA.out 0,cI aA.out 1,cI aA.out 2,cI aD.out 0,cI aD.out 1,cI aD.out 2,cI aD.out 3,(xB HB dI :),(xB HB dH :)⟩ (fun hHeld=>?_)
           clear hK K;refine norm_ (a':=?_) ?_ ?_;rotate_left
           ·show Act.put _ (some 114) _=_
            simp only [Act.put,sA,sZ,sS,i64_w,i32_w]
            rfl
           refine pZ 7 107 (bv 13 1279) HT_ ?_;refine pZ 8 115 (bv 13 1535) HT_ ?_;refine pZ 9 116 (bv 13 2047) HT_ ?_;exact norm_ (by simp only [putAll,Act.put,sA,sZ,sS]) (hCont (fB,aV) _ ⟨hHeld,(kr (Kd.R_mono eG.out (fun _ hk=>hk.2))),(kr aE.out),(ks aG.out),(kr aH.out),(kr (Kd.R_mono aN.out (fun _ hk=>hk.2))),(ks (Kd.S_mono aW.out (fun _ hk=>⟨hk.2,hk.1⟩))),(bk aA.out),(bk aC.out),(bk aI.out),(bk aK.out),(bk aD.out),(bk bL.out),dN.out,fS.out,cL.out,cN.out,cO.out,cP.out,cQ.out,cR.out,cS.out,cT.out,cU.out,cV.out,(bl HB.out)⟩)
         rintro ⟨fB,aV⟩ eL ⟨hS_,h0_,h1_,h2_,h3_,h4_,h5_,h6_,h7_,h8_,h9_,h10_,h11_,h12_,h13_,h14_,h15_,h16_,h17_,h18_,h19_,h20_,h21_,h22_,h23_,h24_⟩;have eG:Aside0 (Kd.R (Kd.int .u8) 5 eL w.heap.size (fun k_=>some k_≠(.slice bV bA.length bW:Value).ownBlock) fB dW):=⟨h0_⟩
         have bL:Aside0 (eL.heap[aV]?=some (.cells #[.int .i64 0,.int .i64 0,.int .i64 0,.slice none 0 0] 30 (0,0))):=⟨h11_⟩;have dN:Aside0 (w.heap.size≤aV):=⟨h12_⟩;have fS:Aside0 (w.heap.size≤aV):=⟨h13_⟩;have cL:Aside0 (bG≠aV):=⟨h14_⟩;have cN:Aside0 (aV≠bG):=⟨h15_⟩;have cO:Aside0 (bK≠aV):=⟨h16_⟩;have cP:Aside0 (aV≠bK):=⟨h17_⟩;have cQ:Aside0 (aX≠aV):=⟨h18_⟩;have cR:Aside0 (aV≠aX):=⟨h19_⟩;have cS:Aside0 (bT≠aV):=⟨h20_⟩;have cT:Aside0 (aV≠bT):=⟨h21_⟩;have cU:Aside0 (aJ≠aV):=⟨h22_⟩;have cV:Aside0 (aV≠aJ):=⟨h23_⟩;replace aE:Aside0 (Kd.R Kd.bool 4 eL w.heap.size (fun _=>True) (.slice cE bH.length cG) bH):=⟨h1_⟩
         replace aG:Aside0 (Kd.S k42 42 eL w.heap.size (fun _=>True) (.slice cH bI.length cK) bI):=⟨h2_⟩
         replace aH:Aside0 (Kd.R k72 72 eL w.heap.size (fun _=>True) (.slice eH cW.length eI) cW):=⟨h3_⟩
         replace aN:Aside0 (Kd.R (Kd.int .u8) 5 eL w.heap.size (fun k_=>some k_≠(fB:Value).ownBlock) (.slice bV bA.length bW) bA):=⟨h4_⟩
         replace aW:Aside0 (Kd.S k46 46 eL w.heap.size (fun k_=>some k_≠(fB:Value).ownBlock∧some k_≠(.slice bV bA.length bW:Value).ownBlock) u9 eP):=⟨h5_⟩
         replace aA:Aside0 (eL.heap[bG]?=some (.cells #[.slice dJ bJ.length dK,.slice (some bD) aQ.length dL,.slice dA bP.length dB] 28 (0,0))):=⟨h6_⟩;replace aC:Aside0 (eL.heap[bK]?=some (.cells #[dC,dD,dE,.slice dZ cX.length eA] 30 (0,0))):=⟨h7_⟩;replace aI:Aside0 (eL.heap[aX]?=some (.cells #[.slice none 0 0,.slice none 0 0,.slice none 0 0] 28 (0,0))):=⟨h8_⟩;replace aK:Aside0 (eL.heap[bT]?=some (.cells #[.slice cE bH.length cG,.slice cH bI.length cK,.slice eH cW.length eI] 28 (0,0))):=⟨h9_⟩;replace aD:Aside0 (eL.heap[aJ]?=some (.cells #[bQ,bU,bO,.slice bV bA.length bW] 30 (0,0))):=⟨h10_⟩;replace HB:Aside0 (Below w.heap.size w eL):=⟨h24_⟩;clear h0_ h1_ h2_ h3_ h4_ h5_ h6_ h7_ h8_ h9_ h10_ h11_ h12_ h13_ h14_ h15_ h16_ h17_ h18_ h19_ h20_ h21_ h22_ h23_ h24_;have hHeld:eL.cell? ⟨bG,0,none⟩=some (.slice dJ bJ.length dK)∧eL.cell? ⟨bG,1,none⟩=some (.slice (some bD) aQ.length dL)∧eL.cell? ⟨bG,2,none⟩=some (.slice dA bP.length dB)∧eL.cell? ⟨aJ,0,none⟩=some bQ∧eL.cell? ⟨aJ,1,none⟩=some bU∧eL.cell? ⟨aJ,2,none⟩=some bO∧eL.cell? ⟨aJ,3,none⟩=some (.slice bV bA.length bW)∧eL.cell? (bD.add ((aT).toNat*2))=some ((rd_T42 aQ aT).f0)∧eL.cell? ⟨(bD.add ((aT).toNat*2)).block,(bD.add ((aT).toNat*2)).off+1,none⟩=some (.slice eT ((rd_T42 aQ aT).f1).length eU):=hS_;obtain ⟨eZ,fA,jM⟩:=Kd.R_slice eG.out
         (subst jM)
         refine norm_ (a':=?_) ?_ ?_;rotate_left
         ·simp only [putAll,Act.put,sA,sZ,sS]
          rfl
         refine one_ (i:=11) (N:=none) (bv 13 4095) rfl rfl (one_of HT_.out (by kernel_rfl)) (by decide) (fun K hK=>?_)
         have uV:=cI bL.out 0;have hfs136:=bF bL.out 0;have uW:=cI bL.out 1;have hfs137:=bF bL.out 1;have uX:=cI bL.out 2;have hfs138:=bF bL.out 2;have uY:=cI bL.out 3;have hfs140:=bF bL.out 3;refine skip_ (w1:=?_) (by rfl) rfl ?_ ?_
         rotate_left
         ·go_simp
          rfl
         refine hK.out _ _ ⟨(cm (hHeld.1)),(cm (hHeld.2.1)),(cm (hHeld.2.2.1)),(cm (hHeld.2.2.2.1)),(cm (hHeld.2.2.2.2.1)),(cm (hHeld.2.2.2.2.2.1)),(cm (hHeld.2.2.2.2.2.2.1)),((cF dI dN.out).trans (((cF dI dN.out).trans (((cF dI dN.out).trans (((cF dI dN.out).trans (hHeld.2.2.2.2.2.2.2.1)))))))),((cF dH dN.out).trans (((cF dH dN.out).trans (((cF dH dN.out).trans (((cF dH dN.out).trans (hHeld.2.2.2.2.2.2.2.2))))))))⟩ (fun hHeld=>?_)
         clear hK K;refine pZ 12 16 (bv 13 8191) HT_ ?_;refine done_ (done_of HT_.out (by kernel_rfl)) ?_
         refine nX (fun W=>Aside0 (Kd.S k46 46 W w.heap.size (fun k_=>some k_≠(.slice bV bA.length bW:Value).ownBlock∧some k_≠(.slice eZ dW.length fA:Value).ownBlock) u9 eP)∧Aside0 (Kd.R Kd.bool 4 W w.heap.size (fun _=>True) (.slice cE bH.length cG) bH)∧Aside0 (Kd.S k42 42 W w.heap.size (fun _=>True) (.slice cH bI.length cK) bI)∧Aside0 (Kd.R k72 72 W w.heap.size (fun _=>True) (.slice eH cW.length eI) cW)∧Aside0 (Kd.R (Kd.int .u8) 5 W w.heap.size (fun k_=>some k_≠(.slice eZ dW.length fA:Value).ownBlock) (.slice bV bA.length bW) bA)∧Aside0 (Kd.R (Kd.int .u8) 5 W w.heap.size (fun k_=>some k_≠(.slice bV bA.length bW:Value).ownBlock) (.slice eZ dW.length fA) dW)∧Aside0 (W.heap[bG]?=some (.cells #[.slice dJ bJ.length dK,.slice (some bD) aQ.length dL,.slice dA bP.length dB] 28 (0,0)))∧Aside0 (W.heap[bK]?=some (.cells #[dC,dD,dE,.slice dZ cX.length eA] 30 (0,0)))∧Aside0 (W.heap[aX]?=some (.cells #[.slice none 0 0,.slice none 0 0,.slice none 0 0] 28 (0,0)))∧Aside0 (W.heap[bT]?=some (.cells #[.slice cE bH.length cG,.slice cH bI.length cK,.slice eH cW.length eI] 28 (0,0)))∧Aside0 (W.heap[aJ]?=some (.cells #[bQ,bU,bO,.slice bV bA.length bW] 30 (0,0)))∧Aside0 (W.heap[aV]?=some (.cells #[eD,eE,eF,.slice eZ dW.length fA] 30 (0,0)))∧Aside0 (Below w.heap.size w W)) ⟨⟨ks (Kd.S_mono (sF4 (g:=aV) (Kd.S_types aW.out bL.out (by decide)) (fun _ hk=>hk.2) (.int .i64 eD) (.int .i64 eE) (.int .i64 eF) (.slice eZ dW.length fA)) (fun _ hk=>⟨hk.1.2,hk.1.1⟩))⟩,⟨kr (Kd.R_mono (rT4 aE.out bL.out (.int .i64 eD) (.int .i64 eE) (.int .i64 eF) (.slice eZ dW.length fA)) (fun _ hk=>trivial))⟩,⟨ks (Kd.S_mono (sT4 aG.out bL.out (.int .i64 eD) (.int .i64 eE) (.int .i64 eF) (.slice eZ dW.length fA)) (fun _ hk=>trivial))⟩,⟨kr (Kd.R_mono (rT4 aH.out bL.out (.int .i64 eD) (.int .i64 eE) (.int .i64 eF) (.slice eZ dW.length fA)) (fun _ hk=>trivial))⟩,⟨kr (rT4 aN.out bL.out (.int .i64 eD) (.int .i64 eE) (.int .i64 eF) (.slice eZ dW.length fA))⟩,⟨kr (rT4 eG.out bL.out (.int .i64 eD) (.int .i64 eE) (.int .i64 eF) (.slice eZ dW.length fA))⟩,⟨fm aA.out⟩,⟨fm aC.out⟩,⟨fm aI.out⟩,⟨fm aK.out⟩,⟨fm aD.out⟩,⟨bm bL.out⟩,⟨bl HB.out⟩⟩ ?_
         intro wI nn_;replace aW:=nn_.1;replace aE:=nn_.2.1;replace aG:=nn_.2.2.1;replace aH:=nn_.2.2.2.1;replace aN:=nn_.2.2.2.2.1;replace eG:=nn_.2.2.2.2.2.1;replace aA:=nn_.2.2.2.2.2.2.1;replace aC:=nn_.2.2.2.2.2.2.2.1;replace aI:=nn_.2.2.2.2.2.2.2.2.1;replace aK:=nn_.2.2.2.2.2.2.2.2.2.1;replace aD:=nn_.2.2.2.2.2.2.2.2.2.2.1;replace bL:=nn_.2.2.2.2.2.2.2.2.2.2.2.1;replace HB:=nn_.2.2.2.2.2.2.2.2.2.2.2.2;clear nn_;have qC:=cA4 bL.out
         try go_wp2_with (((with_reducible refine gate_builtin (b:=.append) (xs:=#[.tmp 118,.tmp 122]) rfl ?_);(try (refine gate_guard (by rfl) ?_;dsimp only));at_builtin;refine Kd.S_append k46 (w0:=w) w.heap.size rfl (.tmp 118) (.tmp 122) 33 46 (.agg #[(.int .i64 0),(.int .i64 0),(.int .i64 0),(.int .i64 0),(.slice none 0 0)]) 56 rfl Try.underlying33 info46 rfl (by decide) (by omega) u9 eP (⟨aT,(⟨eD,eE,eF,dW⟩:S30)⟩:S46) [.int .i64 aT,.int .i64 eD,.int .i64 eE,.int .i64 eF,.slice eZ dW.length fA] (fun k_=>some k_≠(.slice bV bA.length bW:Value).ownBlock) (fun k_=>some k_=(.slice eZ dW.length fA:Value).ownBlock) rfl rfl ?aP (fun k_ hk_=>((Kd.R_mono (ok':=fun k_=>((fun k_=>some k_≠(.slice bV bA.length bW:Value).ownBlock)) k_∧some k_≠(u9:Value).ownBlock) (Kd.R_apart' (eG.out) (Kd.S_typed aW.out) (by decide)) (fun k_ hk=>⟨hk.1,hk.2⟩))).1 k_ hk_.symm) ?aF ?aO ?aB ?aS ?aL ?_;(case aP=>exact k46_mkM _ _ _ (⟨aT,(⟨eD,eE,eF,dW⟩:S30)⟩:S46) (Kd.R_mono (Kd.R_tight rfl (Kd.R_mono (ok':=fun k_=>((fun k_=>some k_≠(.slice bV bA.length bW:Value).ownBlock)) k_∧some k_≠(u9:Value).ownBlock) (Kd.R_apart' (eG.out) (Kd.S_typed aW.out) (by decide)) (fun k_ hk=>⟨hk.1,hk.2⟩))) (fun _ h_=>h_)));(case aB=>exact (bl HB.out));(case aF=>exact (fun k_ hk=>Kd.fresh' (Kd.R_lt (kr aN.out)) k_ hk));(case aO=>exact (ks (Kd.S_mono aW.out (fun k_ hk=>⟨hk.1,fun e_=>hk.2 e_⟩))));(case aS=>exact (below_size (bl HB.out)));(case aL=>have:=LMc131.out;omega);intro wJ wK ho hb hg hat;rw [← jZ.out] at ho;have kA:=aM (ho);replace aE:=aM (Kd.R_over' (kr aE.out) (Kd.S_typed (ks aW.out)) (by decide) hg);replace aG:=aM (Kd.S_over' (ks aG.out) (Kd.S_typed (ks aW.out)) (by decide) hg);replace aH:=aM (Kd.R_over' (kr aH.out) (Kd.S_typed (ks aW.out)) (by decide) hg);replace aN:=aM (Kd.R_over' (kr aN.out) (Kd.S_typed (ks aW.out)) (by decide) hg);replace aA:=aM (blk_grown (bk aA.out) hg (Kd.S_ne aW.out aA.out (by decide)));replace aC:=aM (blk_grown (bk aC.out) hg (Kd.S_ne aW.out aC.out (by decide)));replace aI:=aM (blk_grown (bk aI.out) hg (Kd.S_ne aW.out aI.out (by decide)));replace aK:=aM (blk_grown (bk aK.out) hg (Kd.S_ne aW.out aK.out (by decide)));replace aD:=aM (blk_grown (bk aD.out) hg (Kd.S_ne aW.out aD.out (by decide)));replace bL:=aM (blk_grown (bk bL.out) hg (Kd.S_ne aW.out bL.out (by decide)));replace HB:=aM (hb);clear aW eG;clear ho hb hg hat))
         go_roundg gM
         case measure=>have:=HJ4.out;have:=HJ58.out;have:=gQ.out;have:=HJ99.out;omega
         case rel=>skip;exact ⟨(jX),(wS aT),xE,H',⟨by have:=HJ4.out;have:=HJ58.out;have:=gQ.out;have:=HJ99.out;omega⟩,⟨ks kA.out⟩,⟨kr aE.out⟩,⟨ks aG.out⟩,⟨kr aH.out⟩,⟨kr (Kd.R_mono aN.out (fun _ hk=>trivial))⟩,⟨bk aA.out⟩,⟨bk aC.out⟩,⟨bk aI.out⟩,⟨bk aK.out⟩,⟨bk aD.out⟩,⟨bl HB.out⟩⟩

end Go.Proofs.Ytjodolkdelffaaa.PFnCards
