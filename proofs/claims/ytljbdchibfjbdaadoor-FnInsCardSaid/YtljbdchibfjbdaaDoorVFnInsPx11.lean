/- A part of the proof of laws.FnIns. No condition beyond what its theorems say. -/
import Derived.Test.YtljbdchibfjbdaaDoorVFnInsPx10
namespace Go.Proofs.YtljbdchibfjbdaaDoor.PFnIns
open Go.RowKit Go.Proofs.YtljbdchibfjbdaaDoorW.PrintWords Go.Proofs.YtljbdchibfjbdaaDoorW.PrintLast Go.Proofs.YtljbdchibfjbdaaDoorW.PrintMore
attribute [local go_sem] clipV_slice
set_option linter.unusedVariables false
set_option linter.unusedSimpArgs false

def Z31.l0:Nat→List (S27)→Int→List Int→Int→Int→Option ((List (S27)) × Int × Int)
 | 0,_,_,_,_,_=>none
 | k+1,x3,x4,aD,aE,aG=>(Z3.f aD aE aG 6).bind fun aC=>(if x4<aC.1 then ((Z51.f aD aC.2.1 aC.2.2).bind fun aA=>(if x3.length<2199023255552 then (Z31.l0 k (x3++[(⟨aA.1,aA.2.1,(⟨aA.2.2.1,aA.2.2.2.1,aA.2.2.2.2.1,aA.2.2.2.2.2.1⟩:S25),aA.2.2.2.2.2.2.1,aA.2.2.2.2.2.2.2.1⟩:S27)]) (wrap64 (x4+1)) aD aA.2.2.2.2.2.2.2.2.1 aA.2.2.2.2.2.2.2.2.2) else (none))) else (some (x3,aC.2.1,aC.2.2)))
def Z31.f (k:Nat) (aA:List Int) (aC aD:Int):Option ((List (S27)) × Int × Int):=Z31.l0 k (([]:List (S27))) 0 aA aC aD
theorem Z31.mono_l:∀ k,(∀ y0 y1 y2 y3 y4,LeO (Z31.l0 k y0 y1 y2 y3 y4) (Z31.l0 (k+1) y0 y1 y2 y3 y4))
 | 0=>fun _ _ _ _ _ r h=>by simp [Z31.l0] at h
 | k+1=>by
  have ih0:=Z31.mono_l k
  ·intro y0 y1 y2 y3 y4
   unfold Z31.l0
   repeat' (with_reducible first|apply ih0|exact lR _|refine lI ?_ ?_|refine lB ?_ fun _=>?_)
theorem Z31.mono:∀ a0 a1 a2 k,LeO (Z31.f k a0 a1 a2) (Z31.f (k+1) a0 a1 a2):=by
 intro a0 a1 a2 k;have ih0:=Z31.mono_l k;unfold Z31.f
 repeat' (with_reducible apply ih0)
set_option maxHeartbeats 60000000 in
set_option maxRecDepth 100000 in
theorem Z31.calls (k g:Nat) (aA:List Int) (aN aQ:Int) (r1:List (S27)) (r2 r3:Int) (w0 w:World) (hI:IsS96 w0 w g aA aN aQ) (hB:Below w0.heap.size w0 w) (h:Z31.f k aA aN aQ=some (r1,r2,r3)) :
  Calls Tryd.prog 55 #[.pointer (some ⟨g,0,none⟩)] w fun e w'=>∃ bV:Value,e=.returned (bV)∧Kd.R k27 27 w' w.heap.size (fun _=>True) bV r1∧IsS96 w0 w' g aA r2 r3∧Below w0.heap.size w0 w'∧KeepBut w w' g none:=by
 have aC:=aM hI;have HK:=aM (KeepBut.refl w g none);have HL:=aM hB.size;clear hI;have HW0:=aM hB.size;have HB:=aM hB;clear hB;have H:(Z31.l0 k (([]:List (S27))) 0 aA aN aQ)=some (r1,r2,r3):=h;clear h;obtain ⟨bO,aH⟩:∃ y_:List (S27),y_=(([]:List (S27))):=⟨_,rfl⟩;replace H:(Z31.l0 k bO 0 aA aN aQ)=some (r1,r2,r3):=by (rw [aH];with_reducible exact H)
 have bN:=aM aH;clear aH;have H':=aM H;clear H;go_enter Tryd.func55,Tryd.ntmps55
 go_wp2_with (((with_reducible refine gD (N:=5) rfl ?_);refine Kd.R_lit k27 _ 27 ?hg (N:=5) ?hd (xs:=([]:List (S27))) (inner:=[]) (ok:=fun _=>True) (okp:=fun _=>True) ?hr ?hp (fun _ hk=>hk) trivial (Below.refl _ _) (Nat.le_refl _) (by simp) ?_;(case hd=>rfl);(case hg=>rfl);(case hr=>(go_simp;done));(case hp=>exact (Reps.none _ _));intro cA w2 ho3 hb hg_ hnew_;clear hg_ hnew_;(rw [← bN.out] at ho3);have bQ:=aM (Kd.R_lower ho3 (keep_size (km HK.out)));replace aC:=aM (IsS96.below (IsS96.mv aC.out) hb);replace HK:=rU HK hb;replace HB:=aM (bS (IsS96.bl HB.out) hb);clear hb ho3))
 go_loopg [3,4] k (fun kq v3 v4 w'=>∃ (aJ:List (S27)) (aK:Int) (aD:Int) (aE:Int),v4=.int .i64 aK∧Aside0 (Z31.l0 kq aJ aK aA aD aE=some (r1,r2,r3))∧Aside0 (kq≤k)∧Aside0 (Kd.R k27 27 w' w.heap.size (fun _=>True) v3 aJ)∧Aside0 (IsS96 w0 w' g aA aD aE)∧Aside0 (KeepBut w w' g none)∧Aside0 (Below w0.heap.size w0 w'))
 case atStart=>exact ⟨(bO),(0),(aN),(aQ),xE,H',⟨Nat.le_refl _⟩,⟨kr bQ.out⟩,⟨IsS96.mv aC.out⟩,⟨km HK.out⟩,⟨IsS96.bl HB.out⟩⟩
 case round =>
  clear H'
  obtain ⟨aJ,aK,aD,aE,rfl,HA,bW,aG,aC,HK,HB⟩:=hrel;cases gk with
  | zero=>exact absurd HA.out (by simp [Z31.l0])
  | succ k1 =>
   have H:=HA.out;clear HA;simp only [Z31.l0] at H;obtain ⟨⟨bK,bI,bJ⟩,bX,H⟩:=hB H
   try dsimp only at H
   have A4:=aM bX;clear bX
   by_cases c5:aK<bK
   case neg =>
    rw [if_neg c5] at H
    have bZ:=decide_eq_false c5;clear c5;simp only [Option.some.injEq,Prod.mk.injEq] at H;obtain ⟨rfl,rfl,rfl⟩:=H;go_wp2_with (((with_reducible refine gC (f:=60) rfl ?_);refine goesL_ (some 8) rfl rfl Tryd.func60 (by kernel_rfl) rfl #[.pointer (some ⟨g,0,none⟩),.int .i64 6] rfl xR ?_;(with_reducible refine (Z3.calls g aA aD aE 6 bK bI bJ w0 _ ?side1 ?side2 A4.out).mono ?_);(case side1=>exact IsS96.mv aC.out);(case side2=>exact IsS96.bl HB.out);rintro e cD ⟨rfl,hi,hb,hk⟩;refine ⟨_,rfl,?_⟩;replace aG:=aM (IsS96.rJ aA aD aE (IsS96.mv aC.out) (kr aG.out) hk);replace HK:=aM (KeepBut.trans (km HK.out) hk (.inl rfl));replace HB:=aM (hb);replace aC:=aM (hi);(repeat first|clear hb|clear hk|clear hi)))
    go_ret
    exact ⟨_,xW,kr aG.out,IsS96.mv aC.out,IsS96.bl HB.out,km HK.out⟩
   rw [if_pos c5] at H
   have bZ:=decide_eq_true c5;clear c5;obtain ⟨⟨aT,aV,aW,aX,bA,bD,bG,bH,bL,bM⟩,bY,H⟩:=hB H
   try dsimp only at H
   have A6:=aM bY;clear bY
   by_cases c7:aJ.length<2199023255552
   case neg =>
    rw [if_neg c7] at H
    exact absurd H (by simp)
   rw [if_pos c7] at H
   have LMc7:=aM c7;clear c7;obtain ⟨bP,aI⟩:∃ y_:List (S27),y_=(aJ++[(⟨aT,aV,(⟨aW,aX,bA,bD⟩:S25),bG,bH⟩:S27)]):=⟨_,rfl⟩;replace H:(Z31.l0 k1 bP (wS aK) aA bL bM)=some (r1,r2,r3):=by (rw [aI];with_reducible exact H)
   have bT:=aM aI;clear aI;have H':=aM H;clear H;go_wp2_with (first|((with_reducible refine gC (f:=60) rfl ?_);refine goesL_ (some 8) rfl rfl Tryd.func60 (by kernel_rfl) rfl #[.pointer (some ⟨g,0,none⟩),.int .i64 6] rfl xR ?_;(with_reducible refine (Z3.calls g aA aD aE 6 bK bI bJ w0 _ ?side1 ?side2 A4.out).mono ?_);(case side1=>exact IsS96.mv aC.out);(case side2=>exact IsS96.bl HB.out);rintro e w8 ⟨rfl,hi,hb,hk⟩;refine ⟨_,rfl,?_⟩;replace aG:=aM (IsS96.rJ aA aD aE (IsS96.mv aC.out) (kr aG.out) hk);replace HK:=aM (KeepBut.trans (km HK.out) hk (.inl rfl));replace HB:=aM (hb);replace aC:=aM (hi);(repeat first|clear hb|clear hk|clear hi))|((with_reducible refine gC (f:=49) rfl ?_);refine goesL_ (some 14) rfl rfl Tryd.func49 (by kernel_rfl) rfl #[.pointer (some ⟨g,0,none⟩)] rfl xR ?_;(with_reducible refine (Z51.calls g aA bI bJ aT aV aW aX bA bD bG bH bL bM w0 _ ?side1 ?side2 A6.out).mono ?_);(case side1=>exact IsS96.mv aC.out);(case side2=>exact IsS96.bl HB.out);rintro e w9 ⟨rfl,hi,hb,hk⟩;refine ⟨_,rfl,?_⟩;replace aG:=aM (IsS96.rJ aA bI bJ (IsS96.mv aC.out) (kr aG.out) hk);replace HK:=aM (KeepBut.trans (km HK.out) hk (.inl rfl));replace HB:=aM (hb);replace aC:=aM (hi);(repeat first|clear hb|clear hk|clear hi))|((with_reducible refine gate_builtin (b:=.append) (xs:=#[.tmp 12,.tmp 15]) rfl ?_);at_builtin;refine Kd.R_append k27 w.heap.size rfl (.tmp 12) (.tmp 15) 34 27 (.agg #[(.int .i64 0),(.int .i64 0),(.int .i64 0),(.int .i64 0),(.int .i64 0),(.int .i64 0),(.int .i64 0),(.bool false)]) 64 rfl Tryd.underlying34 info27 rfl (by decide) (by omega) u3 aJ (⟨aT,aV,(⟨aW,aX,bA,bD⟩:S25),bG,bH⟩:S27) [.int .i64 aT,.int .i64 aV,.int .i64 aW,.int .i64 aX,.int .i64 bA,.int .i64 bD,.int .i64 bG,.bool bH] (fun _=>True) (fun _=>False) rfl rfl ?aP (fun _ hk=>hk.elim) ?aF ?aO (Below.refl _ _) ?aS ?aL ?_;(case aP=>exact k27_mkM _ _ _ (⟨aT,aV,(⟨aW,aX,bA,bD⟩:S25),bG,bH⟩:S27));(case aF=>exact (fun _ _=>trivial));(case aO=>exact (kr aG.out));(case aS=>exact (keep_size (km HK.out)));(case aL=>have:=LMc7.out;omega);intro cC cE ho hb hg hat;rw [← bT.out] at ho;have bU:=aM (ho);replace aC:=aM (IsS96.grown (IsS96.mv aC.out) hg (IsS96.own_ne aC.out aG.out (by decide)));replace HB:=aM (below_weaken (IsS96.bl HB.out) HL.out hb);replace HK:=aM (KeepBut.trans (km HK.out) (KeepBut.of_grown hg g) (Kd.R_base2 aG.out));clear aG;clear ho hb hg hat))
   go_roundg k1
   case measure=>have:=bW.out;omega
   case rel=>exact ⟨(bP),(wS aK),(bL),(bM),xE,H',⟨by have:=bW.out;omega⟩,⟨kr bU.out⟩,⟨IsS96.mv aC.out⟩,⟨km HK.out⟩,⟨IsS96.bl HB.out⟩⟩

def Z60.f (k:Nat) (l0:List Int):Option ((List (S27))):=(Z16.f k l0).bind fun aC=>((Z31.f k aC.1 aC.2.1 aC.2.2).bind fun aD=>((Z44.f aC.1 aD.2.1 aD.2.2 5).bind fun aE=>(if aE.1=true then ((Z70.f aC.1 aE.2.1 aE.2.2).bind fun aA=>(if aD.1.length<2199023255552 then (some (aD.1++[(⟨aA.1,aA.2.1,(⟨aA.2.2.1,aA.2.2.2.1,aA.2.2.2.2.1,aA.2.2.2.2.2.1⟩:S25),aA.2.2.2.2.2.2.1,aA.2.2.2.2.2.2.2.1⟩:S27)])) else (none))) else (some aD.1))))
theorem Z60.mono:∀ a0 k,LeO (Z60.f k a0) (Z60.f (k+1) a0):=by
 intro a0 k;unfold Z60.f
 repeat' (with_reducible first|apply Z16.mono|apply Z31.mono|exact lR _|refine lB ?_ fun _=>?_)
set_option maxHeartbeats 60000000 in
set_option maxRecDepth 100000 in
theorem Z60.calls (k:Nat) (A0:Option Addr) (c0:Nat) (l0:List Int) (r:List (S27)) (w:World) (hr0:Kd.C (Kd.int .u8) w A0 l0.length l0) (hc0:l0.length≤c0) (h:Z60.f k l0=some r) :
  Calls Tryd.prog 11 #[.slice A0 l0.length c0] w fun e w'=>∃ bP:Value,e=.returned (bP)∧Kd.R k27 27 w' w.heap.size (fun _=>True) bP r∧Below w.heap.size w w':=by
 have bQ:=aM hr0;have bT:=aM hc0;clear hr0 hc0;have HB:=aM (Below.refl w.heap.size w);have H:((Z16.f k l0).bind fun aG=>((Z31.f k aG.1 aG.2.1 aG.2.2).bind fun aH=>((Z44.f aG.1 aH.2.1 aH.2.2 5).bind fun bH=>(if bH.1=true then ((Z70.f aG.1 bH.2.1 bH.2.2).bind fun aD=>(if aH.1.length<2199023255552 then (some (aH.1++[(⟨aD.1,aD.2.1,(⟨aD.2.2.1,aD.2.2.2.1,aD.2.2.2.2.1,aD.2.2.2.2.2.1⟩:S25),aD.2.2.2.2.2.2.1,aD.2.2.2.2.2.2.2.1⟩:S27)])) else (none))) else (some aH.1)))))=some r:=h
 clear h;obtain ⟨⟨aE,bI,bJ⟩,bU,H⟩:=hB H
 try dsimp only at H
 have A2:=aM bU;clear bU;obtain ⟨⟨aN,aJ,aK⟩,bV,H⟩:=hB H
 try dsimp only at H
 have A3:=aM bV;clear bV;obtain ⟨⟨bY,bK,bL⟩,bW,H⟩:=hB H
 try dsimp only at H
 have A4:=aM bW;clear bW
 by_cases c5:bY=true
 case neg =>
  replace c5:=Bool.eq_false_iff.mpr c5;subst c5;replace H:=hF H;obtain rfl:=Option.some.inj H;go_enter Tryd.func11,Tryd.ntmps11
  go_wp2_with (first|((with_reducible refine gC (f:=44) rfl ?_);refine goesL_ (some 6) rfl rfl Tryd.func44 (by kernel_rfl) rfl #[.slice A0 l0.length c0] rfl xR ?_;(with_reducible refine (Z16.calls k _ _ l0 aE bI bJ w _ ?side1 ?side2 ?side3 A2.out).mono ?_);(case side1=>exact bl HB.out);(case side2=>exact bQ.out);(case side3=>exact bT.out);rintro e cE ⟨g571,rfl,hi,hb,hb2⟩;refine ⟨_,rfl,?_⟩;have aA:=aM (hi);replace HB:=aM (hb);(repeat first|clear hb|clear hb2|clear hi))|((with_reducible refine gC (f:=55) rfl ?_);refine goesL_ (some 8) rfl rfl Tryd.func55 (by kernel_rfl) rfl #[.pointer (some ⟨g571,0,none⟩)] rfl xR ?_;(with_reducible refine (Z31.calls k g571 aE bI bJ aN aJ aK w _ ?side1 ?side2 A3.out).mono ?_);(case side1=>exact IsS96.mv aA.out);(case side2=>exact IsS96.bl HB.out);rintro e cG ⟨bM,rfl,ho0,hi,hb,hk⟩;refine ⟨_,rfl,?_⟩;have aC:=aM (Kd.R_lower ho0 (below_size (IsS96.bl HB.out)));replace HB:=aM (hb);replace aA:=aM (hi);(repeat first|clear hb|clear hk|clear hi|clear ho0))|((with_reducible refine gC (f:=56) rfl ?_);refine goesL_ (some 10) rfl rfl Tryd.func56 (by kernel_rfl) rfl #[.pointer (some ⟨g571,0,none⟩),.int .i64 5] rfl xR ?_;(with_reducible refine (Z44.calls g571 aE aJ aK 5 false bK bL w _ ?side1 ?side2 A4.out).mono ?_);(case side1=>exact IsS96.mv aA.out);(case side2=>exact IsS96.bl HB.out);rintro e cH ⟨rfl,hi,hb,hk⟩;refine ⟨_,rfl,?_⟩;replace aC:=aM (IsS96.rJ aE aJ aK (IsS96.mv aA.out) (kr aC.out) hk);replace HB:=aM (hb);replace aA:=aM (hi);(repeat first|clear hb|clear hk|clear hi)))
  go_ret
  exact ⟨_,xW,kr aC.out,IsS96.bl HB.out⟩
 subst c5;replace H:=hP H rfl;obtain ⟨⟨aQ,aT,aV,aW,aX,bA,bD,bG,bZ,cA⟩,bX,H⟩:=hB H
 try dsimp only at H
 have A6:=aM bX;clear bX
 by_cases c7:aN.length<2199023255552
 case neg =>
  rw [if_neg c7] at H
  exact absurd H (by simp)
 rw [if_pos c7] at H
 have LMc7:=aM c7;clear c7;obtain ⟨cC,aI⟩:∃ y_:List (S27),y_=(aN++[(⟨aQ,aT,(⟨aV,aW,aX,bA⟩:S25),bD,bG⟩:S27)]):=⟨_,rfl⟩;replace H:(some cC)=some r:=by (rw [aI];with_reducible exact H)
 have bN:=aM aI;clear aI;obtain rfl:=Option.some.inj H;go_enter Tryd.func11,Tryd.ntmps11
 go_wp2_with (first|((with_reducible refine gC (f:=44) rfl ?_);refine goesL_ (some 6) rfl rfl Tryd.func44 (by kernel_rfl) rfl #[.slice A0 l0.length c0] rfl xR ?_;(with_reducible refine (Z16.calls k _ _ l0 aE bI bJ w _ ?side1 ?side2 ?side3 A2.out).mono ?_);(case side1=>exact bl HB.out);(case side2=>exact bQ.out);(case side3=>exact bT.out);rintro e w8 ⟨g571,rfl,hi,hb,hb2⟩;refine ⟨_,rfl,?_⟩;have aA:=aM (hi);replace HB:=aM (hb);(repeat first|clear hb|clear hb2|clear hi))|((with_reducible refine gC (f:=55) rfl ?_);refine goesL_ (some 8) rfl rfl Tryd.func55 (by kernel_rfl) rfl #[.pointer (some ⟨g571,0,none⟩)] rfl xR ?_;(with_reducible refine (Z31.calls k g571 aE bI bJ aN aJ aK w _ ?side1 ?side2 A3.out).mono ?_);(case side1=>exact IsS96.mv aA.out);(case side2=>exact IsS96.bl HB.out);rintro e w9 ⟨bM,rfl,ho0,hi,hb,hk⟩;refine ⟨_,rfl,?_⟩;have aC:=aM (Kd.R_lower ho0 (below_size (IsS96.bl HB.out)));replace HB:=aM (hb);replace aA:=aM (hi);(repeat first|clear hb|clear hk|clear hi|clear ho0))|((with_reducible refine gC (f:=56) rfl ?_);refine goesL_ (some 10) rfl rfl Tryd.func56 (by kernel_rfl) rfl #[.pointer (some ⟨g571,0,none⟩),.int .i64 5] rfl xR ?_;(with_reducible refine (Z44.calls g571 aE aJ aK 5 true bK bL w _ ?side1 ?side2 A4.out).mono ?_);(case side1=>exact IsS96.mv aA.out);(case side2=>exact IsS96.bl HB.out);rintro e cK ⟨rfl,hi,hb,hk⟩;refine ⟨_,rfl,?_⟩;replace aC:=aM (IsS96.rJ aE aJ aK (IsS96.mv aA.out) (kr aC.out) hk);replace HB:=aM (hb);replace aA:=aM (hi);(repeat first|clear hb|clear hk|clear hi))|((with_reducible refine gC (f:=43) rfl ?_);refine goesL_ (some 13) rfl rfl Tryd.func43 (by kernel_rfl) rfl #[.pointer (some ⟨g571,0,none⟩)] rfl xR ?_;(with_reducible refine (Z70.calls g571 aE bK bL aQ aT aV aW aX bA bD bG bZ cA w _ ?side1 ?side2 A6.out).mono ?_);(case side1=>exact IsS96.mv aA.out);(case side2=>exact IsS96.bl HB.out);rintro e cL ⟨rfl,hi,hb,hk⟩;refine ⟨_,rfl,?_⟩;replace aC:=aM (IsS96.rJ aE bK bL (IsS96.mv aA.out) (kr aC.out) hk);replace HB:=aM (hb);replace aA:=aM (hi);(repeat first|clear hb|clear hk|clear hi))|((with_reducible refine gate_builtin (b:=.append) (xs:=#[.tmp 11,.tmp 14]) rfl ?_);at_builtin;refine Kd.R_append k27 (w0:=w) w.heap.size rfl (.tmp 11) (.tmp 14) 34 27 (.agg #[(.int .i64 0),(.int .i64 0),(.int .i64 0),(.int .i64 0),(.int .i64 0),(.int .i64 0),(.int .i64 0),(.bool false)]) 64 rfl Tryd.underlying34 info27 rfl (by decide) (by omega) bM aN (⟨aQ,aT,(⟨aV,aW,aX,bA⟩:S25),bD,bG⟩:S27) [.int .i64 aQ,.int .i64 aT,.int .i64 aV,.int .i64 aW,.int .i64 aX,.int .i64 bA,.int .i64 bD,.bool bG] (fun _=>True) (fun _=>False) rfl rfl ?aP (fun _ hk=>hk.elim) ?aF ?aO ?aB ?aS ?aL ?_;(case aP=>exact k27_mkM _ _ _ (⟨aQ,aT,(⟨aV,aW,aX,bA⟩:S25),bD,bG⟩:S27));(case aB=>exact (IsS96.bl HB.out));(case aF=>exact (fun _ _=>trivial));(case aO=>exact (kr aC.out));(case aS=>exact (below_size (IsS96.bl HB.out)));(case aL=>have:=LMc7.out;omega);intro cD cN ho hb hg hat;rw [← bN.out] at ho;have bO:=aM (ho);replace aA:=aM (IsS96.grown (IsS96.mv aA.out) hg (IsS96.own_ne aA.out aC.out (by decide)));replace HB:=aM (hb);clear aC;clear ho hb hg hat))
 go_ret
 exact ⟨_,xW,kr bO.out,IsS96.bl HB.out⟩

def Z82.f (l0:List Int):Option (List Int):=some l0
set_option maxHeartbeats 60000000 in
set_option maxRecDepth 100000 in
theorem Z82.calls (P0_:Nat→Prop) (aA:Value) (l0:List Int) (r:List Int) (w0 w:World) (hB:Below w0.heap.size w0 w) (ho0:Kd.R (Kd.int .u8) 5 w w0.heap.size P0_ aA l0) (h:Z82.f l0=some r) :
  Calls Tryd.prog 57 #[aA] w fun e w'=>∃ aD:Value,e=.returned (clipV aD)∧Kd.R (Kd.int .u8) 5 w' w0.heap.size (fun k_=>(P0_ k_∨w.heap.size≤k_)) aD r∧Below w0.heap.size w0 w'∧Kept w w' (fun k_=>P0_ k_):=by
 have aC:=aM (show Kd.R (Kd.int .u8) 5 w w0.heap.size (fun k_=>(P0_ k_∨w.heap.size≤k_)) aA l0 from Kd.R_mono ho0 (fun k_ hk=>(.inl hk)))
 have HK:=aM (Kept.refl w (fun k_=>P0_ k_))
 have HW0:=aM hB.size;have HB:=aM hB;clear hB;have H:(some l0)=some r:=h;clear h;obtain rfl:=Option.some.inj H;obtain ⟨Ao_,co_,eo_⟩:=Kd.R_slice aC.out;subst eo_;have hn_:=(Kd.R_reads' aC.out).2.1;have hm_:co_≤9223372036854775807:=by
  obtain ⟨inner,ho,_⟩:=aC.out.2
  rcases ho.2 with ⟨he,h0⟩|⟨g,cap,cur,he,_,_,_,hc,_⟩
  ·injection he with _ _ he
   omega
  ·injection he with _ _ he
   subst he;exact hc
 have n1_:(0:Int)≤(l0.length:Int):=by omega
 have n2_:(l0.length:Int)≤(co_:Int):=by omega
 go_enter Tryd.func57,Tryd.ntmps57
 go_wp2
 go_ret
 exact ⟨(.slice Ao_ l0.length co_),xW,kr aC.out,bl HB.out,kk HK.out⟩

def Z23.l0:Nat→List Int→List (S27)→Int→Int→Option (List Int)
 | 0,_,_,_,_=>none
 | k+1,x3,x6,x7,x8=>if x8<x7 then (if 0≤x8 then (if x8<(x6.length:Int) then ((Z38.f k ((rd_T27 x6 x8).f0) ((rd_T27 x6 x8).f1) ((rd_T27 x6 x8).f2.f0) ((rd_T27 x6 x8).f2.f1) ((rd_T27 x6 x8).f2.f2) ((rd_T27 x6 x8).f2.f3) ((rd_T27 x6 x8).f3) ((rd_T27 x6 x8).f4)).bind fun aA=>(if x3.length+aA.length<140737488355328 then (Z23.l0 k (x3++aA) x6 x7 (wrap64 (x8+1))) else (none))) else (none)) else (none)) else ((Z82.f x3).bind fun aC=>(some aC))
def Z23.f (k:Nat) (l0:List (S27)):Option (List Int):=Z23.l0 k ([]:List Int) l0 (l0.length:Int) 0
theorem Z23.mono_l:∀ k,(∀ y0 y1 y2 y3,LeO (Z23.l0 k y0 y1 y2 y3) (Z23.l0 (k+1) y0 y1 y2 y3))
 | 0=>fun _ _ _ _ r h=>by simp [Z23.l0] at h
 | k+1=>by
  have ih0:=Z23.mono_l k
  ·intro y0 y1 y2 y3
   unfold Z23.l0
   repeat' (with_reducible first|apply ih0|apply Z38.mono|exact lR _|refine lI ?_ ?_|refine lB ?_ fun _=>?_)
theorem Z23.mono:∀ a0 k,LeO (Z23.f k a0) (Z23.f (k+1) a0):=by
 intro a0 k;have ih0:=Z23.mono_l k;unfold Z23.f
 repeat' (with_reducible apply ih0)
set_option maxHeartbeats 60000000 in
set_option maxRecDepth 100000 in
theorem Z23.calls (k:Nat) (A0:Option Addr) (c0:Nat) (l0:List (S27)) (r:List Int) (w:World) (hr0:Kd.C k27 w A0 l0.length l0) (hc0:l0.length≤c0) (h:Z23.f k l0=some r) :
  Calls Tryd.prog 12 #[.slice A0 l0.length c0] w fun e w'=>∃ bO:Value,e=.returned (clipV bO)∧Kd.R (Kd.int .u8) 5 w' w.heap.size (fun _=>True) bO r∧Below w.heap.size w w':=by
 have cH:=Tryd.underlying27;have cA:=aM hr0;have cR:=aM hc0;clear hr0 hc0;have HB:=aM (Below.refl w.heap.size w);have H:(Z23.l0 k ([]:List Int) l0 (l0.length:Int) 0)=some r:=h;clear h;have H':=aM H;clear H;go_enter Tryd.func12,Tryd.ntmps12
 go_wp2
 go_loopg [3,8] k (fun kq v3 v8 w'=>∃ (aG:List Int) (aA:Int),v8=.int .i64 aA∧Aside0 (Z23.l0 kq aG l0 (l0.length:Int) aA=some r)∧Aside0 (kq≤k)∧Aside0 (Kd.R (Kd.int .u8) 5 w' w.heap.size (fun _=>True) v3 aG)∧Aside0 (Below w.heap.size w w'))
 case atStart=>exact ⟨(([]:List Int)),(0),xE,H',⟨Nat.le_refl _⟩,⟨by exact Kd.R_nil _ _ _ _ _⟩,⟨bl HB.out⟩⟩
 case round =>
  clear H'
  obtain ⟨aG,aA,rfl,HA,bP,aD,HB⟩:=hrel;cases gk with
  | zero=>exact absurd HA.out (by simp [Z23.l0])
  | succ k1 =>
   have H:=HA.out;clear HA;simp only [Z23.l0] at H
   by_cases c2:aA<(l0.length:Int)
   case neg =>
    rw [if_neg c2] at H
    have bT:=decide_eq_false c2;clear c2;obtain ⟨bU,bJ,H⟩:=hB H;have cC:=aM bJ;clear bJ;obtain rfl:=Option.some.inj H;obtain ⟨bD,bG,bV⟩:=Kd.R_slice aD.out;subst bV;go_wp2_with (((with_reducible refine gC (f:=57) rfl ?_);refine goesL_ (some 18) rfl rfl Tryd.func57 (by kernel_rfl) rfl #[.slice bD aG.length bG] rfl xR ?_;(with_reducible refine (Z82.calls (fun k_=>some k_=(.slice bD aG.length bG:Value).ownBlock) (.slice bD aG.length bG) aG bU w _ ?side1 ?side2 cC.out).mono ?_);(case side1=>exact bl HB.out);(case side2=>exact Kd.R_tight rfl aD.out);rintro e cS ⟨cK,rfl,ho0,hb,hkp⟩;refine ⟨_,rfl,?_⟩;have bL:=aM (Kd.R_mono (ok':=fun k_=>True) ho0 (fun k_ hk_=>trivial));replace HB:=aM (hb);clear aD;(repeat first|clear hb|clear hkp|clear ho0)))
    go_ret
    exact ⟨_,xW,kr bL.out,bl HB.out⟩
   rw [if_pos c2] at H
   have bT:=decide_eq_true c2;clear c2;obtain ⟨cL,H⟩:=gI H;obtain ⟨cN,H⟩:=gI H;obtain ⟨aJ,bQ,H⟩:=hB H;have A5:=aM bQ;clear bQ
   by_cases c6:aG.length+aJ.length<140737488355328
   case neg =>
    rw [if_neg c6] at H
    exact absurd H (by simp)
   rw [if_pos c6] at H
   have LMc6:=aM c6;clear c6;obtain ⟨bK,aI⟩:∃ y_:List Int,y_=(aG++aJ):=⟨_,rfl⟩;replace H:(Z23.l0 k1 bK l0 (l0.length:Int) (wS aA))=some r:=by (rw [aI];with_reducible exact H)
   have bM:=aM aI;clear aI;have H':=aM H;clear H;have bH:0≤(aA:Int):=dT;have bI:aA<(l0.length:Int):=dT;obtain ⟨cD,bW,aK,aN,aQ,aT,aV,aW,aX,bA⟩:=at_T27 cA.out aA bH bI;cases bW
   replace aK:=xB HB aK;replace aN:=xB HB aN;replace aQ:=xB HB aQ;replace aT:=xB HB aT;replace aV:=xB HB aV;replace aW:=xB HB aW;replace aX:=xB HB aX;replace bA:=xB HB bA;replace bH:=eq_true bH;replace bI:=eq_true bI;go_wp2_with (first|((with_reducible refine gD (N:=5) rfl ?_);refine box_event ?hg (N:=5) ?hd (cs:=#[.int .i64 0,.int .i64 0,.int .i64 0,.int .i64 0,.int .i64 0,.int .i64 0,.int .i64 0,.bool false]) (t:=27) ?hr ?_;(case hd=>rfl);(case hg=>rfl);(case hr=>(go_simp;done));intro aC hg w7 hbox hb;have aE:=aM (hbox);have cE:=gF hg HB;have cG:=gF hg HB;replace aD:=rK aD hb;replace HB:=rS HB hb;clear hb hbox hg;have cO:=cA8 aE.out)|((with_reducible refine gC (f:=7) rfl ?_);refine goesL_ (some 14) rfl rfl Tryd.func7 (by kernel_rfl) rfl #[.agg #[((rd_T27 l0 aA).f0),((rd_T27 l0 aA).f1),((rd_T27 l0 aA).f2.f0),((rd_T27 l0 aA).f2.f1),((rd_T27 l0 aA).f2.f2),((rd_T27 l0 aA).f2.f3),((rd_T27 l0 aA).f3),((rd_T27 l0 aA).f4)]] rfl xR ?_;(with_reducible refine (Z38.calls k1 ((rd_T27 l0 aA).f0) ((rd_T27 l0 aA).f1) ((rd_T27 l0 aA).f2.f0) ((rd_T27 l0 aA).f2.f1) ((rd_T27 l0 aA).f2.f2) ((rd_T27 l0 aA).f2.f3) ((rd_T27 l0 aA).f3) ((rd_T27 l0 aA).f4) aJ _ A5.out).mono ?_);rintro e w9 ⟨cP,rfl,ho0,hb⟩;refine ⟨_,rfl,?_⟩;have aH:=aM (Kd.R_lower (Kd.R_new' ho0 (Kd.R_lt (kr (rT8 aD.out aE.out (.int .i64 ((rd_T27 l0 aA).f0)) (.int .i64 ((rd_T27 l0 aA).f1)) (.int .i64 ((rd_T27 l0 aA).f2.f0)) (.int .i64 ((rd_T27 l0 aA).f2.f1)) (.int .i64 ((rd_T27 l0 aA).f2.f2)) (.int .i64 ((rd_T27 l0 aA).f2.f3)) (.int .i64 ((rd_T27 l0 aA).f3)) (.bool ((rd_T27 l0 aA).f4)))))) (below_size (bl HB.out)));replace aD:=aM (Kd.R_elder' (kr (rT8 aD.out aE.out (.int .i64 ((rd_T27 l0 aA).f0)) (.int .i64 ((rd_T27 l0 aA).f1)) (.int .i64 ((rd_T27 l0 aA).f2.f0)) (.int .i64 ((rd_T27 l0 aA).f2.f1)) (.int .i64 ((rd_T27 l0 aA).f2.f2)) (.int .i64 ((rd_T27 l0 aA).f2.f3)) (.int .i64 ((rd_T27 l0 aA).f3)) (.bool ((rd_T27 l0 aA).f4)))) (Kd.R_base ho0) hb);replace aE:=aM (bB (g:=aC) (o:=.cells #[((rd_T27 l0 aA).f0),((rd_T27 l0 aA).f1),((rd_T27 l0 aA).f2.f0),((rd_T27 l0 aA).f2.f1),((rd_T27 l0 aA).f2.f2),((rd_T27 l0 aA).f2.f3),((rd_T27 l0 aA).f3),((rd_T27 l0 aA).f4)] 27 (0,0)) (bm aE.out) hb);replace HB:=rS HB hb;(repeat first|clear hb|clear ho0);obtain ⟨bX,bY,bZ⟩:=Kd.R_slice aH.out;subst bZ)|((with_reducible refine gate_builtin (b:=.append) (xs:=#[.tmp 12,.tmp 14]) rfl ?_);at_builtin;refine Kd.R_append_rows (Kd.int .u8) (w0:=w) w.heap.size rfl (.tmp 12) (.tmp 14) 22 5 (.int .u8 0) 1 rfl Tryd.underlying22 info5 rfl (by decide) (by omega) u3 aG aJ _ _ _ (fun k_=>some k_≠(.slice bX aJ.length bY:Value).ownBlock) (fun _=>False) rfl rfl ?aO ?aR (fun _ _ h=>h) (fun _ h=>h.elim) ?aF ?aB ?aS ?aL ?_;(case aR=>repeat (exact (Kd.R_reads' aH.out).2.2));(case aB=>exact (bl HB.out));(case aF=>exact (fun k_ hk=>Kd.fresh' (Kd.R_lt (kr aH.out)) k_ hk));(case aO=>exact (kr (Kd.R_mono aD.out (fun _ hk=>hk.2))));(case aS=>exact (below_size (bl HB.out)));(case aL=>have:=LMc6.out;omega);intro cQ cT ho hb hg hat;rw [← bM.out] at ho;have bN:=aM (ho);replace aE:=aM (blk_grown (bk aE.out) hg (Kd.R_ne aD.out aE.out (by decide)));replace aH:=aM (Kd.R_after (ok:=(fun _=>True)) (kr aH.out) hg hat);replace HB:=aM (hb);clear aD;clear ho hb hg hat))
   go_roundg k1
   case measure=>have:=bP.out;omega
   case rel=>exact ⟨(bK),(wS aA),xE,H',⟨by have:=bP.out;omega⟩,⟨kr (Kd.R_mono bN.out (fun _ hk=>trivial))⟩,⟨bl HB.out⟩⟩

def Z22.l0:Nat→List (S27)→List Int→Int→Option (List Int)
 | 0,_,_,_=>none
 | k+1,x0,x3,x4=>if x4<(x0.length:Int) then (if 0≤x4 then ((Z28.f k ((rd_T27 x0 x4).f0) ((rd_T27 x0 x4).f1) ((rd_T27 x0 x4).f2.f0) ((rd_T27 x0 x4).f2.f1) ((rd_T27 x0 x4).f2.f2) ((rd_T27 x0 x4).f2.f3) ((rd_T27 x0 x4).f3) ((rd_T27 x0 x4).f4)).bind fun aA=>(if x3.length+aA.length<140737488355328 then (Z22.l0 k x0 (x3++aA) (wrap64 (x4+1))) else (none))) else (none)) else (some x3)
def Z22.f (k:Nat) (l0:List (S27)):Option (List Int):=Z22.l0 k l0 (([]:List Int)) 0
theorem Z22.mono_l:∀ k,(∀ y0 y1 y2,LeO (Z22.l0 k y0 y1 y2) (Z22.l0 (k+1) y0 y1 y2))
 | 0=>fun _ _ _ r h=>by simp [Z22.l0] at h
 | k+1=>by
  have ih0:=Z22.mono_l k
  ·intro y0 y1 y2
   unfold Z22.l0
   repeat' (with_reducible first|apply ih0|apply Z28.mono|exact lR _|refine lI ?_ ?_|refine lB ?_ fun _=>?_)
theorem Z22.mono:∀ a0 k,LeO (Z22.f k a0) (Z22.f (k+1) a0):=by
 intro a0 k;have ih0:=Z22.mono_l k;unfold Z22.f
 repeat' (with_reducible apply ih0)
set_option maxHeartbeats 60000000 in
set_option maxRecDepth 100000 in
theorem Z22.calls (k:Nat) (A0:Option Addr) (c0:Nat) (l0:List (S27)) (r:List Int) (w:World) (hr0:Kd.C k27 w A0 l0.length l0) (hc0:l0.length≤c0) (h:Z22.f k l0=some r) :
  Calls Tryd.prog 19 #[.slice A0 l0.length c0] w fun e w'=>∃ bM:Value,e=.returned (bM)∧Kd.R (Kd.int .u8) 5 w' w.heap.size (fun _=>True) bM r∧Below w.heap.size w w':=by
 have bY:=Tryd.underlying27;have bW:=aM hr0;have cE:=aM hc0;clear hr0 hc0;have HB:=aM (Below.refl w.heap.size w);have H:(Z22.l0 k l0 (([]:List Int)) 0)=some r:=h;clear h;obtain ⟨bH,aC⟩:∃ y_:List Int,y_=(([]:List Int)):=⟨_,rfl⟩;replace H:(Z22.l0 k l0 bH 0)=some r:=by (rw [aC];with_reducible exact H)
 have bG:=aM aC;clear aC;have H':=aM H;clear H;go_enter Tryd.func19,Tryd.ntmps19
 go_wp2_with (((with_reducible refine gD (N:=5) rfl ?_);refine Kd.R_lit (Kd.int .u8) _ 5 ?hg (N:=5) ?hd (xs:=([]:List Int)) (inner:=[]) (ok:=fun _=>True) (okp:=fun _=>True) ?hr ?hp (fun _ hk=>hk) trivial (Below.refl _ _) (Nat.le_refl _) (by simp) ?_;(case hd=>rfl);(case hg=>rfl);(case hr=>(go_simp;done));(case hp=>exact (Reps.none _ _));intro bZ w2 ho3 hb hg_ hnew_;clear hg_ hnew_;(rw [← bG.out] at ho3);have bJ:=aM (Kd.R_lower ho3 (below_size (bl HB.out)));replace HB:=rS HB hb;clear hb ho3))
 go_loopg [3,4] k (fun kq v3 v4 w'=>∃ (aG:List Int) (aA:Int),v4=.int .i64 aA∧Aside0 (Z22.l0 kq l0 aG aA=some r)∧Aside0 (kq≤k)∧Aside0 (Kd.R (Kd.int .u8) 5 w' w.heap.size (fun _=>True) v3 aG)∧Aside0 (Below w.heap.size w w'))
 case atStart=>exact ⟨(bH),(0),xE,H',⟨Nat.le_refl _⟩,⟨kr bJ.out⟩,⟨bl HB.out⟩⟩
 case round =>
  clear H'
  repeat first|clear c1|clear p2
  obtain ⟨aG,aA,rfl,HA,bN,aH,HB⟩:=hrel;cases gk with
  | zero=>exact absurd HA.out (by simp [Z22.l0])
  | succ k1 =>
   have H:=HA.out;clear HA;simp only [Z22.l0] at H
   by_cases c4:aA<(l0.length:Int)
   case neg =>
    rw [if_neg c4] at H
    have bP:=decide_eq_false c4;clear c4;obtain rfl:=Option.some.inj H;go_wp2
    go_ret
    exact ⟨_,xW,kr aH.out,bl HB.out⟩
   rw [if_pos c4] at H
   have bP:=decide_eq_true c4;clear c4;obtain ⟨cA,H⟩:=gI H;obtain ⟨aI,bO,H⟩:=hB H;have A6:=aM bO;clear bO
   by_cases c7:aG.length+aI.length<140737488355328
   case neg =>
    rw [if_neg c7] at H
    exact absurd H (by simp)
   rw [if_pos c7] at H
   have LMc7:=aM c7;clear c7;obtain ⟨bI,aD⟩:∃ y_:List Int,y_=(aG++aI):=⟨_,rfl⟩;replace H:(Z22.l0 k1 l0 bI (wS aA))=some r:=by (rw [aD];with_reducible exact H)
   have bK:=aM aD;clear aD;have H':=aM H;clear H;have bA:0≤(aA:Int):=dT;have bD:aA<(l0.length:Int):=dT;obtain ⟨bX,bQ,aJ,aK,aN,aQ,aT,aV,aW,aX⟩:=at_T27 bW.out aA bA bD;cases bQ
   replace aJ:=xB HB aJ;replace aK:=xB HB aK;replace aN:=xB HB aN;replace aQ:=xB HB aQ;replace aT:=xB HB aT;replace aV:=xB HB aV;replace aW:=xB HB aW;replace aX:=xB HB aX;replace bA:=eq_true bA;replace bD:=eq_true bD;go_wp2_with (first|((with_reducible refine gC (f:=18) rfl ?_);refine goesL_ (some 17) rfl rfl Tryd.func18 (by kernel_rfl) rfl #[.agg #[((rd_T27 l0 aA).f0),((rd_T27 l0 aA).f1),((rd_T27 l0 aA).f2.f0),((rd_T27 l0 aA).f2.f1),((rd_T27 l0 aA).f2.f2),((rd_T27 l0 aA).f2.f3),((rd_T27 l0 aA).f3),((rd_T27 l0 aA).f4)]] rfl xR ?_;(with_reducible refine (Z28.calls k1 ((rd_T27 l0 aA).f0) ((rd_T27 l0 aA).f1) ((rd_T27 l0 aA).f2.f0) ((rd_T27 l0 aA).f2.f1) ((rd_T27 l0 aA).f2.f2) ((rd_T27 l0 aA).f2.f3) ((rd_T27 l0 aA).f3) ((rd_T27 l0 aA).f4) aI _ A6.out).mono ?_);rintro e w8 ⟨cC,rfl,ho0,hb⟩;refine ⟨_,rfl,?_⟩;have aE:=aM (Kd.R_lower (Kd.R_new' ho0 (Kd.R_lt (kr aH.out))) (below_size (bl HB.out)));replace aH:=aM (Kd.R_elder' (kr aH.out) (Kd.R_base ho0) hb);replace HB:=rS HB hb;(repeat first|clear hb|clear ho0);obtain ⟨bT,bU,bV⟩:=Kd.R_slice aE.out;subst bV)|((with_reducible refine gate_builtin (b:=.append) (xs:=#[.tmp 12,.tmp 17]) rfl ?_);at_builtin;refine Kd.R_append_rows (Kd.int .u8) (w0:=w) w.heap.size rfl (.tmp 12) (.tmp 17) 22 5 (.int .u8 0) 1 rfl Tryd.underlying22 info5 rfl (by decide) (by omega) u3 aG aI _ _ _ (fun k_=>some k_≠(.slice bT aI.length bU:Value).ownBlock) (fun _=>False) rfl rfl ?aO ?aR (fun _ _ h=>h) (fun _ h=>h.elim) ?aF ?aB ?aS ?aL ?_;(case aR=>repeat (exact (Kd.R_reads' aE.out).2.2));(case aB=>exact (bl HB.out));(case aF=>exact (fun k_ hk=>Kd.fresh' (Kd.R_lt (kr aE.out)) k_ hk));(case aO=>exact (kr (Kd.R_mono aH.out (fun _ hk=>hk.2))));(case aS=>exact (below_size (bl HB.out)));(case aL=>have:=LMc7.out;omega);intro cD w9 ho hb hg hat;rw [← bK.out] at ho;have bL:=aM (ho);replace aE:=aM (Kd.R_after (ok:=(fun _=>True)) (kr aE.out) hg hat);replace HB:=aM (hb);clear aH;clear ho hb hg hat))
   go_roundg k1
   case measure=>have:=bN.out;omega
   case rel=>exact ⟨(bI),(wS aA),xE,H',⟨by have:=bN.out;omega⟩,⟨kr (Kd.R_mono bL.out (fun _ hk=>trivial))⟩,⟨bl HB.out⟩⟩

def Z55.f (k:Nat) (l0:List Int):Option (List Int):=(Z16.f k l0).bind fun aA=>((Z31.f k aA.1 aA.2.1 aA.2.2).bind fun aC=>((Z22.f k aC.1).bind fun aE=>((Z71.f aA.1 aC.2.1 aC.2.2 aE).bind fun aD=>(some aD.1))))
theorem Z55.mono:∀ a0 k,LeO (Z55.f k a0) (Z55.f (k+1) a0):=by
 intro a0 k;unfold Z55.f
 repeat' (with_reducible first|apply Z22.mono|apply Z16.mono|apply Z31.mono|exact lR _|refine lB ?_ fun _=>?_)
set_option maxHeartbeats 60000000 in
set_option maxRecDepth 100000 in
theorem Z55.calls (k:Nat) (A0:Option Addr) (c0:Nat) (l0:List Int) (r:List Int) (w:World) (hr0:Kd.C (Kd.int .u8) w A0 l0.length l0) (hc0:l0.length≤c0) (h:Z55.f k l0=some r) :
  Calls Tryd.prog 13 #[.slice A0 l0.length c0] w fun e w'=>∃ bD:Value,e=.returned (bD)∧Kd.R (Kd.int .u8) 5 w' w.heap.size (fun _=>True) bD r∧Below w.heap.size w w':=by
 have bO:=aM hr0;have bP:=aM hc0;clear hr0 hc0;have HB:=aM (Below.refl w.heap.size w);have H:((Z16.f k l0).bind fun aE=>((Z31.f k aE.1 aE.2.1 aE.2.2).bind fun aH=>((Z22.f k aH.1).bind fun aD=>((Z71.f aE.1 aH.2.1 aH.2.2 aD).bind fun aX=>(some aX.1)))))=some r:=h
 clear h;obtain ⟨⟨aI,aQ,aT⟩,bG,H⟩:=hB H
 try dsimp only at H
 have A2:=aM bG;clear bG;obtain ⟨⟨aJ,aV,aW⟩,bH,H⟩:=hB H
 try dsimp only at H
 have A3:=aM bH;clear bH;obtain ⟨aD,bI,H⟩:=hB H;have A4:=aM bI;clear bI;obtain ⟨⟨bK,bL,bM⟩,bJ,H⟩:=hB H
 try dsimp only at H
 have A5:=aM bJ;clear bJ;obtain rfl:=Option.some.inj H;go_enter Tryd.func13,Tryd.ntmps13
 go_wp2_with (first|((with_reducible refine gC (f:=44) rfl ?_);refine goesL_ (some 5) rfl rfl Tryd.func44 (by kernel_rfl) rfl #[.slice A0 l0.length c0] rfl xR ?_;(with_reducible refine (Z16.calls k _ _ l0 aI aQ aT w _ ?side1 ?side2 ?side3 A2.out).mono ?_);(case side1=>exact bl HB.out);(case side2=>exact bO.out);(case side3=>exact bP.out);rintro e w6 ⟨g617,rfl,hi,hb,hb2⟩;refine ⟨_,rfl,?_⟩;have aA:=aM (hi);replace HB:=aM (hb);(repeat first|clear hb|clear hb2|clear hi))|((with_reducible refine gC (f:=55) rfl ?_);refine goesL_ (some 8) rfl rfl Tryd.func55 (by kernel_rfl) rfl #[.pointer (some ⟨g617,0,none⟩)] rfl xR ?_;(with_reducible refine (Z31.calls k g617 aI aQ aT aJ aV aW w _ ?side1 ?side2 A3.out).mono ?_);(case side1=>exact IsS96.mv aA.out);(case side2=>exact IsS96.bl HB.out);rintro e w7 ⟨bV,rfl,ho0,hi,hb,hk⟩;refine ⟨_,rfl,?_⟩;have aC:=aM (Kd.R_lower ho0 (below_size (IsS96.bl HB.out)));replace HB:=aM (hb);replace aA:=aM (hi);(repeat first|clear hb|clear hk|clear hi|clear ho0);obtain ⟨bQ,bT,bU⟩:=Kd.R_slice aC.out;subst bU)|((with_reducible refine gC (f:=19) rfl ?_);refine goesL_ (some 9) rfl rfl Tryd.func19 (by kernel_rfl) rfl #[.slice bQ aJ.length bT] rfl xR ?_;(with_reducible refine (Z22.calls k _ _ aJ aD _ ?side1 ?side2 A4.out).mono ?_);(case side1=>exact cM ((Kd.R_reads' aC.out).2.2));(case side2=>exact (Kd.R_reads' aC.out).2.1);rintro e w9 ⟨bW,rfl,ho0,hb⟩;refine ⟨_,rfl,?_⟩;have aG:=aM (Kd.R_lower ho0 (below_size (IsS96.bl HB.out)));replace aC:=rK aC hb;replace aA:=aM (IsS96.below (IsS96.mv aA.out) hb);replace HB:=aM (bS (IsS96.bl HB.out) hb);(repeat first|clear hb|clear ho0);obtain ⟨aK,aN,bN⟩:=Kd.R_slice aG.out;subst bN)|((with_reducible refine gC (f:=48) rfl ?_);refine goesL_ (some 10) rfl rfl Tryd.func48 (by kernel_rfl) rfl #[.pointer (some ⟨g617,0,none⟩),.slice aK aD.length aN] rfl xR ?_;(with_reducible refine (Z71.calls g617 aI aV aW (fun k_=>some k_=(.slice aK aD.length aN:Value).ownBlock) (.slice aK aD.length aN) aD bK bL bM w _ ?side1 ?side2 ?side3 A5.out).mono ?_);(case side1=>exact IsS96.mv aA.out);(case side2=>exact IsS96.bl HB.out);(case side3=>exact Kd.R_tight rfl aG.out);rintro e bY ⟨bX,rfl,ho0,hi,hb,hkp⟩;refine ⟨_,rfl,?_⟩;have bA:=aM (Kd.R_mono (ok':=fun k_=>True) ho0 (fun k_ hk_=>trivial));replace aC:=aM (Kd.R_mono (ok':=fun k_=>True) (Kd.R_keptB ((IsS96.apart aA.out (Kd.R_apart' aC.out (Kd.R_typed aG.out) (by decide)) (by decide))) hkp (fun k_ hk_ hs_=>Or.elim hs_ (fun hs_=>(hk_.1.2) hs_) (fun e_=>(hk_.2) e_))) (fun k_ hk_=>trivial));replace aA:=aM (hi);replace HB:=aM (hb);clear aG;(repeat first|clear hb|clear hkp|clear ho0)))
 go_ret
 exact ⟨_,xW,kr bA.out,IsS96.bl HB.out⟩

def Z27.l0:Nat→List Int→List (S27)→Int→Option ((List (S27)) × Int)
 | 0,_,_,_=>none
 | k+1,x0,x4,x5=>(Z13.f k x0 x5).bind fun aA=>(if aA.2.2.2.2.2.2.2.2.2=true then (if x4.length<2199023255552 then (Z27.l0 k x0 (x4++[(⟨aA.1,aA.2.1,(⟨aA.2.2.1,aA.2.2.2.1,aA.2.2.2.2.1,aA.2.2.2.2.2.1⟩:S25),aA.2.2.2.2.2.2.1,aA.2.2.2.2.2.2.2.1⟩:S27)]) aA.2.2.2.2.2.2.2.2.1) else (none)) else (some (x4,x5)))
def Z27.f (k:Nat) (l0:List Int):Option ((List (S27)) × Int):=Z27.l0 k l0 ([]:List (S27)) 0
theorem Z27.mono_l:∀ k,(∀ y0 y1 y2,LeO (Z27.l0 k y0 y1 y2) (Z27.l0 (k+1) y0 y1 y2))
 | 0=>fun _ _ _ r h=>by simp [Z27.l0] at h
 | k+1=>by
  have ih0:=Z27.mono_l k
  ·intro y0 y1 y2
   unfold Z27.l0
   repeat' (with_reducible first|apply ih0|apply Z13.mono|exact lR _|refine lI ?_ ?_|refine lB ?_ fun _=>?_)
theorem Z27.mono:∀ a0 k,LeO (Z27.f k a0) (Z27.f (k+1) a0):=by
 intro a0 k;have ih0:=Z27.mono_l k;unfold Z27.f
 repeat' (with_reducible apply ih0)
set_option maxHeartbeats 60000000 in
set_option maxRecDepth 100000 in
theorem Z27.calls (k:Nat) (A0:Option Addr) (c0:Nat) (l0:List Int) (r1:List (S27)) (r2:Int) (w:World) (hr0:Kd.C (Kd.int .u8) w A0 l0.length l0) (hc0:l0.length≤c0) (h:Z27.f k l0=some (r1,r2)) :
  Calls Tryd.prog 14 #[.slice A0 l0.length c0] w fun e w'=>∃ bJ:Value,e=.returned (.tuple #[bJ,r2])∧Kd.R k27 27 w' w.heap.size (fun _=>True) bJ r1∧Below w.heap.size w w':=by
 have bQ:=Tryd.underlying27;have bK:=aM hr0;have bL:=aM hc0;clear hr0 hc0;have HB:=aM (Below.refl w.heap.size w);have H:(Z27.l0 k l0 ([]:List (S27)) 0)=some (r1,r2):=h;clear h;have H':=aM H;clear H;go_enter Tryd.func14,Tryd.ntmps14
 go_wp2
 go_loopg [4,5] k (fun kq v4 v5 w'=>∃ (aW:List (S27)) (aT:Int),v5=.int .i64 aT∧Aside0 (Z27.l0 kq l0 aW aT=some (r1,r2))∧Aside0 (kq≤k)∧Aside0 (Kd.R k27 27 w' w.heap.size (fun _=>True) v4 aW)∧Aside0 (Below w.heap.size w w'))
 case atStart=>exact ⟨(([]:List (S27))),(0),xE,H',⟨Nat.le_refl _⟩,⟨by exact Kd.R_nil _ _ _ _ _⟩,⟨bl HB.out⟩⟩
 case round =>
  clear H'
  obtain ⟨aW,aT,rfl,HA,bM,aC,HB⟩:=hrel;cases gk with
  | zero=>exact absurd HA.out (by simp [Z27.l0])
  | succ k1 =>
   have H:=HA.out;clear HA;simp only [Z27.l0] at H;obtain ⟨⟨aD,aE,aG,aH,aI,aJ,aK,aN,aX,bO⟩,bN,H⟩:=hB H
   try dsimp only at H
   have A2:=aM bN;clear bN
   by_cases c3:bO=true
   case neg =>
    replace c3:=Bool.eq_false_iff.mpr c3;subst c3;replace H:=hF H;simp only [Option.some.injEq,Prod.mk.injEq] at H;obtain ⟨rfl,rfl⟩:=H;go_wp2_with (first|((with_reducible refine gC (f:=9) rfl ?_);refine goesL_ (some 12) rfl rfl Tryd.func9 (by kernel_rfl) rfl #[.slice A0 l0.length c0,aT] rfl xR ?_;(with_reducible refine (Z13.calls k1 _ _ l0 aT aD aE aG aH aI aJ aK aN aX false _ ?side1 ?side2 A2.out).mono ?_);(case side1=>exact cM (cB bK.out HB.out));(case side2=>exact bL.out);rintro e w9 ⟨rfl,hb⟩;refine ⟨_,rfl,?_⟩;replace aC:=rK aC hb;replace HB:=rS HB hb;(try clear hb))|((with_reducible refine gD (N:=6) rfl ?_);refine bR aC (N:=6) (cs:=#[.int .i64 0,.int .i64 0,.int .i64 0,.int .i64 0,.int .i64 0,.int .i64 0,.int .i64 0,.bool false]) (t:=27) ?_;intro aA hg bV hbox hb;have aQ:=aM (hbox);have bD:=gF hg HB;have bG:=gF hg HB;replace aC:=aM (kB (Kd.R_elderB (kr aC.out) aA (Nat.le_of_eq hg.symm)) hb);replace HB:=rS HB hb;clear hb hbox hg;have bP:=cA8 aQ.out))
    go_ret2
    exact ⟨_,xW,kr (Kd.R_mono (rF8 (g:=aA) (Kd.R_mono aC.out (fun k_ hk=>(⟨hk,hk.2⟩:_∧k_≠aA))) (fun _ hk=>hk.2) (.int .i64 aD) (.int .i64 aE) (.int .i64 aG) (.int .i64 aH) (.int .i64 aI) (.int .i64 aJ) (.int .i64 aK) (.bool aN)) (fun _ hk=>trivial)),bl HB.out⟩
   subst c3;replace H:=hP H rfl
   by_cases c4:aW.length<2199023255552
   case neg =>
    rw [if_neg c4] at H
    exact absurd H (by simp)
   rw [if_pos c4] at H
   have LMc4:=aM c4;clear c4;obtain ⟨bA,aV⟩:∃ y_:List (S27),y_=(aW++[(⟨aD,aE,(⟨aG,aH,aI,aJ⟩:S25),aK,aN⟩:S27)]):=⟨_,rfl⟩;replace H:(Z27.l0 k1 l0 bA aX)=some (r1,r2):=by (rw [aV];with_reducible exact H)
   have bH:=aM aV;clear aV;have H':=aM H;clear H;go_wp2_with (first|((with_reducible refine gC (f:=9) rfl ?_);refine goesL_ (some 12) rfl rfl Tryd.func9 (by kernel_rfl) rfl #[.slice A0 l0.length c0,aT] rfl xR ?_;(with_reducible refine (Z13.calls k1 _ _ l0 aT aD aE aG aH aI aJ aK aN aX true _ ?side1 ?side2 A2.out).mono ?_);(case side1=>exact cM (cB bK.out HB.out));(case side2=>exact bL.out);rintro e w5 ⟨rfl,hb⟩;refine ⟨_,rfl,?_⟩;replace aC:=rK aC hb;replace HB:=rS HB hb;(try clear hb))|((with_reducible refine gD (N:=6) rfl ?_);refine bR aC (N:=6) (cs:=#[.int .i64 0,.int .i64 0,.int .i64 0,.int .i64 0,.int .i64 0,.int .i64 0,.int .i64 0,.bool false]) (t:=27) ?_;intro aA hg w6 hbox hb;have aQ:=aM (hbox);have bD:=gF hg HB;have bG:=gF hg HB;replace aC:=aM (kB (Kd.R_elderB (kr aC.out) aA (Nat.le_of_eq hg.symm)) hb);replace HB:=rS HB hb;clear hb hbox hg;have bT:=cA8 aQ.out)|((with_reducible refine gate_builtin (b:=.append) (xs:=#[.tmp 20,.tmp 22]) rfl ?_);at_builtin;refine Kd.R_append k27 (w0:=w) w.heap.size rfl (.tmp 20) (.tmp 22) 34 27 (.agg #[(.int .i64 0),(.int .i64 0),(.int .i64 0),(.int .i64 0),(.int .i64 0),(.int .i64 0),(.int .i64 0),(.bool false)]) 64 rfl Tryd.underlying34 info27 rfl (by decide) (by omega) u4 aW (⟨aD,aE,(⟨aG,aH,aI,aJ⟩:S25),aK,aN⟩:S27) [.int .i64 aD,.int .i64 aE,.int .i64 aG,.int .i64 aH,.int .i64 aI,.int .i64 aJ,.int .i64 aK,.bool aN] (fun k_=>k_≠aA) (fun _=>False) rfl (by (go_simp;done)) ?aP (fun _ hk=>hk.elim) ?aF ?aO ?aB ?aS ?aL ?_;(case aP=>exact k27_mkM _ _ _ (⟨aD,aE,(⟨aG,aH,aI,aJ⟩:S25),aK,aN⟩:S27));(case aB=>exact (bl HB.out));(case aF=>exact (fun k_ hk=>Kd.freshB (g:=aA) (o:=.cells #[aD,aE,aG,aH,aI,aJ,aK,aN] 27 (0,0)) (bm aQ.out) k_ hk));(case aO=>exact (kr (Kd.R_mono (rF8 (g:=aA) (Kd.R_mono aC.out (fun k_ hk=>(⟨hk,hk.2⟩:_∧k_≠aA))) (fun _ hk=>hk.2) (.int .i64 aD) (.int .i64 aE) (.int .i64 aG) (.int .i64 aH) (.int .i64 aI) (.int .i64 aJ) (.int .i64 aK) (.bool aN)) (fun _ hk=>hk.1.2))));(case aS=>exact (below_size (bl HB.out)));(case aL=>have:=LMc4.out;omega);intro bU w8 ho hb hg hat;rw [← bH.out] at ho;have bI:=aM (ho);replace aQ:=aM (blk_grown (g:=aA) (o:=.cells #[aD,aE,aG,aH,aI,aJ,aK,aN] 27 (0,0)) (bm aQ.out) hg (Kd.R_away aC.out (fun _ hk=>hk.2)));replace HB:=aM (hb);clear aC;clear ho hb hg hat))
   go_roundg k1
   case measure=>have:=bM.out;omega
   case rel=>exact ⟨(bA),(aX),xE,H',⟨by have:=bM.out;omega⟩,⟨kr (Kd.R_mono bI.out (fun _ hk=>trivial))⟩,⟨bl HB.out⟩⟩

def Z30.l0:Nat→List Int→List (S27)→Int→Option ((List (S27)) × Int)
 | 0,_,_,_=>none
 | k+1,x0,x4,x5=>(Z7.f k x0 x5).bind fun aA=>(if aA.2.2.2.2.2.2.2.2.2=true then (if x4.length<2199023255552 then (Z30.l0 k x0 (x4++[(⟨aA.1,aA.2.1,(⟨aA.2.2.1,aA.2.2.2.1,aA.2.2.2.2.1,aA.2.2.2.2.2.1⟩:S25),aA.2.2.2.2.2.2.1,aA.2.2.2.2.2.2.2.1⟩:S27)]) aA.2.2.2.2.2.2.2.2.1) else (none)) else (some (x4,x5)))
def Z30.f (k:Nat) (l0:List Int):Option ((List (S27)) × Int):=Z30.l0 k l0 (([]:List (S27))) 0
theorem Z30.mono_l:∀ k,(∀ y0 y1 y2,LeO (Z30.l0 k y0 y1 y2) (Z30.l0 (k+1) y0 y1 y2))
 | 0=>fun _ _ _ r h=>by simp [Z30.l0] at h
 | k+1=>by
  have ih0:=Z30.mono_l k
  ·intro y0 y1 y2
   unfold Z30.l0
   repeat' (with_reducible first|apply ih0|apply Z7.mono|exact lR _|refine lI ?_ ?_|refine lB ?_ fun _=>?_)
theorem Z30.mono:∀ a0 k,LeO (Z30.f k a0) (Z30.f (k+1) a0):=by
 intro a0 k;have ih0:=Z30.mono_l k;unfold Z30.f
 repeat' (with_reducible apply ih0)
set_option maxHeartbeats 60000000 in
set_option maxRecDepth 100000 in
theorem Z30.calls (k:Nat) (A0:Option Addr) (c0:Nat) (l0:List Int) (r1:List (S27)) (r2:Int) (w:World) (hr0:Kd.C (Kd.int .u8) w A0 l0.length l0) (hc0:l0.length≤c0) (h:Z30.f k l0=some (r1,r2)) :
  Calls Tryd.prog 15 #[.slice A0 l0.length c0] w fun e w'=>∃ bN:Value,e=.returned (.tuple #[bN,r2])∧Kd.R k27 27 w' w.heap.size (fun _=>True) bN r1∧Below w.heap.size w w':=by
 have bW:=Tryd.underlying27;have bO:=aM hr0;have bP:=aM hc0;clear hr0 hc0;have HB:=aM (Below.refl w.heap.size w);have H:(Z30.l0 k l0 (([]:List (S27))) 0)=some (r1,r2):=h;clear h;obtain ⟨bG,aV⟩:∃ y_:List (S27),y_=(([]:List (S27))):=⟨_,rfl⟩;replace H:(Z30.l0 k l0 bG 0)=some (r1,r2):=by (rw [aV];with_reducible exact H)
 have bD:=aM aV;clear aV;have H':=aM H;clear H;go_enter Tryd.func15,Tryd.ntmps15
 go_wp2_with (((with_reducible refine gD (N:=9) rfl ?_);refine Kd.R_lit k27 _ 27 ?hg (N:=9) ?hd (xs:=([]:List (S27))) (inner:=[]) (ok:=fun _=>True) (okp:=fun _=>True) ?hr ?hp (fun _ hk=>hk) trivial (Below.refl _ _) (Nat.le_refl _) (by simp) ?_;(case hd=>rfl);(case hg=>rfl);(case hr=>(go_simp;done));(case hp=>exact (Reps.none _ _));intro bX w2 ho3 hb hg_ hnew_;clear hg_ hnew_;(rw [← bD.out] at ho3);have bI:=aM (Kd.R_lower ho3 (below_size (bl HB.out)));replace HB:=rS HB hb;clear hb ho3))
 go_loopg [4,5] k (fun kq v4 v5 w'=>∃ (aX:List (S27)) (aT:Int),v5=.int .i64 aT∧Aside0 (Z30.l0 kq l0 aX aT=some (r1,r2))∧Aside0 (kq≤k)∧Aside0 (Kd.R k27 27 w' w.heap.size (fun _=>True) v4 aX)∧Aside0 (Below w.heap.size w w'))
 case atStart=>exact ⟨(bG),(0),xE,H',⟨Nat.le_refl _⟩,⟨kr bI.out⟩,⟨bl HB.out⟩⟩
 case round =>
  clear H'
  repeat first|clear c1|clear p2
  obtain ⟨aX,aT,rfl,HA,bQ,aC,HB⟩:=hrel;cases gk with
  | zero=>exact absurd HA.out (by simp [Z30.l0])
  | succ k1 =>
   have H:=HA.out;clear HA;simp only [Z30.l0] at H;obtain ⟨⟨aD,aE,aG,aH,aI,aJ,aK,aN,bA,bU⟩,bT,H⟩:=hB H
   try dsimp only at H
   have A4:=aM bT;clear bT
   by_cases c5:bU=true
   case neg =>
    replace c5:=Bool.eq_false_iff.mpr c5;subst c5;replace H:=hF H;simp only [Option.some.injEq,Prod.mk.injEq] at H;obtain ⟨rfl,rfl⟩:=H;go_wp2_with (first|((with_reducible refine gC (f:=10) rfl ?_);refine goesL_ (some 13) rfl rfl Tryd.func10 (by kernel_rfl) rfl #[.slice A0 l0.length c0,aT] rfl xR ?_;(with_reducible refine (Z7.calls k1 _ _ l0 aT aD aE aG aH aI aJ aK aN bA false _ ?side1 ?side2 A4.out).mono ?_);(case side1=>exact cM (cB bO.out HB.out));(case side2=>exact bP.out);rintro e cA ⟨rfl,hb⟩;refine ⟨_,rfl,?_⟩;replace aC:=rK aC hb;replace HB:=rS HB hb;(try clear hb))|((with_reducible refine gD (N:=6) rfl ?_);refine bR aC (N:=6) (cs:=#[.int .i64 0,.int .i64 0,.int .i64 0,.int .i64 0,.int .i64 0,.int .i64 0,.int .i64 0,.bool false]) (t:=27) ?_;intro aA hg cC hbox hb;have aQ:=aM (hbox);have bJ:=gF hg HB;have bK:=gF hg HB;replace aC:=aM (kB (Kd.R_elderB (kr aC.out) aA (Nat.le_of_eq hg.symm)) hb);replace HB:=rS HB hb;clear hb hbox hg;have bV:=cA8 aQ.out))
    go_ret2
    exact ⟨_,xW,kr (Kd.R_mono (rF8 (g:=aA) (Kd.R_mono aC.out (fun k_ hk=>(⟨hk,hk.2⟩:_∧k_≠aA))) (fun _ hk=>hk.2) (.int .i64 aD) (.int .i64 aE) (.int .i64 aG) (.int .i64 aH) (.int .i64 aI) (.int .i64 aJ) (.int .i64 aK) (.bool aN)) (fun _ hk=>trivial)),bl HB.out⟩
   subst c5;replace H:=hP H rfl
   by_cases c6:aX.length<2199023255552
   case neg =>
    rw [if_neg c6] at H
    exact absurd H (by simp)
   rw [if_pos c6] at H
   have LMc6:=aM c6;clear c6;obtain ⟨bH,aW⟩:∃ y_:List (S27),y_=(aX++[(⟨aD,aE,(⟨aG,aH,aI,aJ⟩:S25),aK,aN⟩:S27)]):=⟨_,rfl⟩;replace H:(Z30.l0 k1 l0 bH bA)=some (r1,r2):=by (rw [aW];with_reducible exact H)
   have bL:=aM aW;clear aW;have H':=aM H;clear H;go_wp2_with (first|((with_reducible refine gC (f:=10) rfl ?_);refine goesL_ (some 13) rfl rfl Tryd.func10 (by kernel_rfl) rfl #[.slice A0 l0.length c0,aT] rfl xR ?_;(with_reducible refine (Z7.calls k1 _ _ l0 aT aD aE aG aH aI aJ aK aN bA true _ ?side1 ?side2 A4.out).mono ?_);(case side1=>exact cM (cB bO.out HB.out));(case side2=>exact bP.out);rintro e w7 ⟨rfl,hb⟩;refine ⟨_,rfl,?_⟩;replace aC:=rK aC hb;replace HB:=rS HB hb;(try clear hb))|((with_reducible refine gD (N:=6) rfl ?_);refine bR aC (N:=6) (cs:=#[.int .i64 0,.int .i64 0,.int .i64 0,.int .i64 0,.int .i64 0,.int .i64 0,.int .i64 0,.bool false]) (t:=27) ?_;intro aA hg w8 hbox hb;have aQ:=aM (hbox);have bJ:=gF hg HB;have bK:=gF hg HB;replace aC:=aM (kB (Kd.R_elderB (kr aC.out) aA (Nat.le_of_eq hg.symm)) hb);replace HB:=rS HB hb;clear hb hbox hg;have bY:=cA8 aQ.out)|((with_reducible refine gate_builtin (b:=.append) (xs:=#[.tmp 21,.tmp 23]) rfl ?_);at_builtin;refine Kd.R_append k27 (w0:=w) w.heap.size rfl (.tmp 21) (.tmp 23) 34 27 (.agg #[(.int .i64 0),(.int .i64 0),(.int .i64 0),(.int .i64 0),(.int .i64 0),(.int .i64 0),(.int .i64 0),(.bool false)]) 64 rfl Tryd.underlying34 info27 rfl (by decide) (by omega) u4 aX (⟨aD,aE,(⟨aG,aH,aI,aJ⟩:S25),aK,aN⟩:S27) [.int .i64 aD,.int .i64 aE,.int .i64 aG,.int .i64 aH,.int .i64 aI,.int .i64 aJ,.int .i64 aK,.bool aN] (fun k_=>k_≠aA) (fun _=>False) rfl (by (go_simp;done)) ?aP (fun _ hk=>hk.elim) ?aF ?aO ?aB ?aS ?aL ?_;(case aP=>exact k27_mkM _ _ _ (⟨aD,aE,(⟨aG,aH,aI,aJ⟩:S25),aK,aN⟩:S27));(case aB=>exact (bl HB.out));(case aF=>exact (fun k_ hk=>Kd.freshB (g:=aA) (o:=.cells #[aD,aE,aG,aH,aI,aJ,aK,aN] 27 (0,0)) (bm aQ.out) k_ hk));(case aO=>exact (kr (Kd.R_mono (rF8 (g:=aA) (Kd.R_mono aC.out (fun k_ hk=>(⟨hk,hk.2⟩:_∧k_≠aA))) (fun _ hk=>hk.2) (.int .i64 aD) (.int .i64 aE) (.int .i64 aG) (.int .i64 aH) (.int .i64 aI) (.int .i64 aJ) (.int .i64 aK) (.bool aN)) (fun _ hk=>hk.1.2))));(case aS=>exact (below_size (bl HB.out)));(case aL=>have:=LMc6.out;omega);intro bZ cD ho hb hg hat;rw [← bL.out] at ho;have bM:=aM (ho);replace aQ:=aM (blk_grown (g:=aA) (o:=.cells #[aD,aE,aG,aH,aI,aJ,aK,aN] 27 (0,0)) (bm aQ.out) hg (Kd.R_away aC.out (fun _ hk=>hk.2)));replace HB:=aM (hb);clear aC;clear ho hb hg hat))
   go_roundg k1
   case measure=>have:=bQ.out;omega
   case rel=>exact ⟨(bH),(bA),xE,H',⟨by have:=bQ.out;omega⟩,⟨kr (Kd.R_mono bM.out (fun _ hk=>trivial))⟩,⟨bl HB.out⟩⟩

def Z62.f (k:Nat) (l0:List Int):Option (Int × Int × Int × Int × Int × Int × Int × Bool):=(Z16.f k l0).bind fun aC=>((Z70.f aC.1 aC.2.1 aC.2.2).bind fun aA=>(some (aA.1,aA.2.1,aA.2.2.1,aA.2.2.2.1,aA.2.2.2.2.1,aA.2.2.2.2.2.1,aA.2.2.2.2.2.2.1,aA.2.2.2.2.2.2.2.1)))
theorem Z62.mono:∀ a0 k,LeO (Z62.f k a0) (Z62.f (k+1) a0):=by
 intro a0 k;unfold Z62.f
 repeat' (with_reducible first|apply Z16.mono|exact lR _|refine lB ?_ fun _=>?_)
set_option maxHeartbeats 60000000 in
set_option maxRecDepth 100000 in
theorem Z62.calls (k:Nat) (A0:Option Addr) (c0:Nat) (l0:List Int) (r1 r2 r3 r4 r5 r6 r7:Int) (r8:Bool) (w:World) (hr0:Kd.C (Kd.int .u8) w A0 l0.length l0) (hc0:l0.length≤c0) (h:Z62.f k l0=some (r1,r2,r3,r4,r5,r6,r7,r8)) :
  Calls Tryd.prog 16 #[.slice A0 l0.length c0] w fun e w'=>e=.returned (.agg #[r1,r2,r3,r4,r5,r6,r7,r8])∧Below w.heap.size w w':=by
 have bP:=Tryd.underlying27;have bL:=aM hr0;have bM:=aM hc0;clear hr0 hc0;have HB:=aM (Below.refl w.heap.size w);have H:((Z16.f k l0).bind fun aE=>((Z70.f aE.1 aE.2.1 aE.2.2).bind fun aA=>(some (aA.1,aA.2.1,aA.2.2.1,aA.2.2.2.1,aA.2.2.2.2.1,aA.2.2.2.2.2.1,aA.2.2.2.2.2.2.1,aA.2.2.2.2.2.2.2.1))))=some (r1,r2,r3,r4,r5,r6,r7,r8):=h
 clear h;obtain ⟨⟨aI,aJ,aK⟩,bH,H⟩:=hB H
 try dsimp only at H
 have A2:=aM bH;clear bH;obtain ⟨⟨aN,aQ,aT,aV,aW,aX,bA,bD,bJ,bK⟩,bI,H⟩:=hB H
 try dsimp only at H
 have A3:=aM bI;clear bI;simp only [Option.some.injEq,Prod.mk.injEq] at H;obtain ⟨rfl,rfl,rfl,rfl,rfl,rfl,rfl,rfl⟩:=H;go_enter Tryd.func16,Tryd.ntmps16
 go_wp2_with (first|((with_reducible refine gD (N:=2) rfl ?_);refine bE (N:=2) (cs:=#[.int .i64 0,.int .i64 0,.int .i64 0,.int .i64 0,.int .i64 0,.int .i64 0,.int .i64 0,.bool false]) (t:=27) ?_;intro bG hg w4 hbox hb;have aC:=aM (hbox);have bN:=gF hg HB;have bO:=gF hg HB;replace HB:=rS HB hb;clear hb hbox hg)|((with_reducible refine gC (f:=44) rfl ?_);refine goesL_ (some 4) rfl rfl Tryd.func44 (by kernel_rfl) rfl #[.slice A0 l0.length c0] rfl xR ?_;(with_reducible refine (Z16.calls k _ _ l0 aI aJ aK w _ ?side1 ?side2 ?side3 A2.out).mono ?_);(case side1=>exact bl HB.out);(case side2=>exact bL.out);(case side3=>exact bM.out);rintro e w5 ⟨g666,rfl,hi,hb,hb2⟩;refine ⟨_,rfl,?_⟩;have aH:=aM (hi);have aG:=aM (IsS96.ne_blk hi (bB (bk aC.out) hb2) (by decide));have aD:=aM (Ne.symm (IsS96.ne_blk hi (bB (bk aC.out) hb2) (by decide)));replace aC:=aM (bB (bk aC.out) hb2);replace HB:=aM (hb);(repeat first|clear hb|clear hb2|clear hi))|((with_reducible refine gC (f:=43) rfl ?_);refine goesL_ (some 5) rfl rfl Tryd.func43 (by kernel_rfl) rfl #[.pointer (some ⟨g666,0,none⟩)] rfl xR ?_;(with_reducible refine (Z70.calls g666 aI aJ aK aN aQ aT aV aW aX bA bD bJ bK w _ ?side1 ?side2 A3.out).mono ?_);(case side1=>exact IsS96.mv aH.out);(case side2=>exact IsS96.bl HB.out);rintro e w6 ⟨rfl,hi,hb,hk⟩;refine ⟨_,rfl,?_⟩;replace aC:=rP hk aC aD;replace HB:=aM (hb);replace aH:=aM (hi);(repeat first|clear hb|clear hk|clear hi);have bQ:=aD.out;have bT:=aG.out;have bU:=cA8 aC.out))
 refine bodyPost_ret (results_cell_row rfl _ _ bG 27 #[aN,aQ,aT,aV,aW,aX,bA,bD] (0,0) _ rfl (bm aC.out) Tryd.underlying27 rfl (by kernel_rfl)) rfl ?_
 exact ⟨xW,IsS96.bl HB.out⟩

end Go.Proofs.YtljbdchibfjbdaaDoor.PFnIns
