/- A part of the proof of laws.FnIns. No condition beyond what its theorems say. -/
import Derived.Test.YtljbdchibfjbdaaDoorVFnInsPx5
namespace Go.Proofs.YtljbdchibfjbdaaDoor.PFnIns
open Go.RowKit Go.Proofs.YtljbdchibfjbdaaDoorW.PrintWords Go.Proofs.YtljbdchibfjbdaaDoorW.PrintLast Go.Proofs.YtljbdchibfjbdaaDoorW.PrintMore
set_option linter.unusedVariables false
set_option linter.unusedSimpArgs false

attribute [local go_sem high] eqA25
mutual
def Z9.j0:Nat→Bool→Bool→Bool→Int→Int→Int→Int→Int→Int→Int→Int→Bool→Option (Bool)
 | 0,_,_,_,_,_,_,_,_,_,_,_,_=>none
 | k+1,bA,aE,aK,aN,aQ,aT,aV,aW,aX,aA,aC,aD=>if bA=true then (some false) else (if aA=1 then ((Z2.f aA 0 3).bind fun aG=>(if aG=true then (if ((aA == 0) == (!aE))=true then ((Z2.f aC 0 4).bind fun aH=>(if aH=true then (some (aD == (aC == 0))) else (some false))) else (some false)) else (some false))) else ((Z2.f aA 0 3).bind fun aI=>(if aI=true then (if ((aA == 0) == (!aE))=true then ((Z2.f aC 0 4).bind fun aJ=>(if aJ=true then (if aA=2 then (some (aD == (aC == 0))) else (some (aD == false))) else (some false))) else (some false)) else (some false))))
def Z9.j1:Nat→Bool→Bool→Bool→Int→Int→Int→Int→Int→Int→Int→Int→Bool→Option (Bool)
 | 0,_,_,_,_,_,_,_,_,_,_,_,_=>none
 | k+1,bA,aE,aK,aN,aQ,aT,aV,aW,aX,aA,aC,aD=>if bA=true then (some false) else (if aA=1 then ((Z2.f aA 0 3).bind fun aG=>(if aG=true then (if ((aA == 0) == (!aE))=true then ((Z2.f aC 0 4).bind fun aH=>(if aH=true then (some (aD == (aC == 0))) else (some false))) else (some false)) else (some false))) else ((Z2.f aA 0 3).bind fun aI=>(if aI=true then (if ((aA == 0) == (!aE))=true then ((Z2.f aC 0 4).bind fun aJ=>(if aJ=true then (if aA=2 then (some (aD == (aC == 0))) else (some (aD == false))) else (some false))) else (some false)) else (some false))))
end
def Z9.f (k:Nat) (aJ aK:Bool) (aA aC aD aE aG aH aN aQ:Int) (aI:Bool):Option (Bool):=if aK=true then (if aJ=true then ((Z54.f aA aC aD aE).bind fun aT=>(if aT=true then ((Z2.f aG 0 8).bind fun aV=>(if aV=true then ((Z2.f aH 1 3).bind fun aW=>(Z9.j0 k (!aW) aJ aK aA aC aD aE aG aH aN aQ aI)) else (Z9.j0 k true aJ aK aA aC aD aE aG aH aN aQ aI))) else (Z9.j0 k true aJ aK aA aC aD aE aG aH aN aQ aI))) else (Z9.j0 k true aJ aK aA aC aD aE aG aH aN aQ aI)) else (if (!(aA == 0) || (!(aC == 0) || (!(aD == 0) || (!(aE == 0)))))=true then (Z9.j1 k true aJ aK aA aC aD aE aG aH aN aQ aI) else (if aG=0 then (Z9.j1 k (aH != 0) aJ aK aA aC aD aE aG aH aN aQ aI) else (Z9.j1 k true aJ aK aA aC aD aE aG aH aN aQ aI)))
theorem Z9.mono_l:∀ k,(∀ y0 y1 y2 y3 y4 y5 y6 y7 y8 y9 aA aC,LeO (Z9.j0 k y0 y1 y2 y3 y4 y5 y6 y7 y8 y9 aA aC) (Z9.j0 (k+1) y0 y1 y2 y3 y4 y5 y6 y7 y8 y9 aA aC))∧(∀ y0 y1 y2 y3 y4 y5 y6 y7 y8 y9 aA aC,LeO (Z9.j1 k y0 y1 y2 y3 y4 y5 y6 y7 y8 y9 aA aC) (Z9.j1 (k+1) y0 y1 y2 y3 y4 y5 y6 y7 y8 y9 aA aC))
 | 0=>by refine ⟨?_,?_⟩ <;> intros <;> intro r h <;> simp [Z9.j0,Z9.j1] at h
 | k+1=>by
  obtain ⟨ih0,ih1⟩:=Z9.mono_l k;refine ⟨?_,?_⟩
  ·intro y0 y1 y2 y3 y4 y5 y6 y7 y8 y9 aA aC
   unfold Z9.j0
   repeat' (with_reducible exact lR _)
  ·intro y0 y1 y2 y3 y4 y5 y6 y7 y8 y9 aA aC
   unfold Z9.j1
   repeat' (with_reducible exact lR _)
theorem Z9.mono:∀ a0 a1 a2 a3 a4 a5 a6 a7 a8 a9 aA k,LeO (Z9.f k a0 a1 a2 a3 a4 a5 a6 a7 a8 a9 aA) (Z9.f (k+1) a0 a1 a2 a3 a4 a5 a6 a7 a8 a9 aA):=by
 intro a0 a1 a2 a3 a4 a5 a6 a7 a8 a9 aA k;obtain ⟨ih0,ih1⟩:=Z9.mono_l k;unfold Z9.f
 repeat' (with_reducible first|apply ih0|apply ih1|exact lR _|refine lI ?_ ?_|refine lB ?_ fun _=>?_)
set_option maxHeartbeats 60000000 in
set_option maxRecDepth 100000 in
theorem Z9.calls (k:Nat) (aD aT:Bool) (aH aI aJ aK aG aN aA aE:Int) (aQ r:Bool) (w:World) (h:Z9.f k aD aT aH aI aJ aK aG aN aA aE aQ=some r) :
  Calls Tryd.prog 89 #[.agg #[aD,aT,aH,aI,aJ,aK,aG,aN,aA,aE,aQ]] w fun e w'=>e=.returned (.bool r)∧Below w.heap.size w w':=by
 have eQ:=Tryd.underlying102;have gA:=Tryd.underlying25;have HB:=aM (Below.refl w.heap.size w);have H:(if aT=true then (if aD=true then ((Z54.f aH aI aJ aK).bind fun cA=>(if cA=true then ((Z2.f aG 0 8).bind fun cC=>(if cC=true then ((Z2.f aN 1 3).bind fun bO=>(Z9.j0 k (!bO) aD aT aH aI aJ aK aG aN aA aE aQ)) else (Z9.j0 k true aD aT aH aI aJ aK aG aN aA aE aQ))) else (Z9.j0 k true aD aT aH aI aJ aK aG aN aA aE aQ))) else (Z9.j0 k true aD aT aH aI aJ aK aG aN aA aE aQ)) else (if (!(aH == 0) || (!(aI == 0) || (!(aJ == 0) || (!(aK == 0)))))=true then (Z9.j1 k true aD aT aH aI aJ aK aG aN aA aE aQ) else (if aG=0 then (Z9.j1 k (aN != 0) aD aT aH aI aJ aK aG aN aA aE aQ) else (Z9.j1 k true aD aT aH aI aJ aK aG aN aA aE aQ))))=some r:=h
 clear h
 by_cases c2:aT=true
 case pos =>
  subst c2;replace H:=hP H rfl;have dC:=aM H;clear H;go_enter Tryd.func89,Tryd.ntmps89
  go_upto_region 2 with (((with_reducible refine gD (N:=1) rfl ?_);refine bE (N:=1) (cs:=#[aD,.bool true,aH,aI,aJ,aK,aG,aN,aA,aE,aQ]) (t:=102) ?_;intro bP hg w4 hbox hb;have aC:=aM (hbox);have dO:=gF hg HB;have dP:=gF hg HB;replace HB:=rS HB hb;clear hb hbox hg;have gB:=cA11 aC.out))
  go_cut [26] (fun eN wc=>∃ (kq:Nat) (bK:Bool),eN=.bool bK∧Aside0 (Z9.j0 kq bK aD true aH aI aJ aK aG aN aA aE aQ=some r)∧Aside0 (kq≤k)∧Aside0 (wc.heap[bP]?=some (.cells #[aD,.bool true,aH,aI,aJ,aK,aG,aN,aA,aE,aQ] 102 (0,0)))∧Aside0 (Below w.heap.size w wc))
  case first =>
   have H:=dC.out;clear dC
   by_cases c6:aD=true
   case neg =>
    replace c6:=Bool.eq_false_iff.mpr c6;subst c6;replace H:=hF H;have H':=aM H;clear H;have eR:=cA11 aC.out;go_wp2
    go_meet
    case rel=>exact ⟨_,(true),xE,H',⟨by omega⟩,⟨bk aC.out⟩,⟨bl HB.out⟩⟩
   subst c6;replace H:=hP H rfl;obtain ⟨cA,eB,H⟩:=hB H;have A7:=aM eB;clear eB
   by_cases c8:cA=true
   case neg =>
    replace c8:=Bool.eq_false_iff.mpr c8;subst c8;replace H:=hF H;have H':=aM H;clear H;have eS:=cA11 aC.out;go_wp2_with ((go_at_call 70;(with_reducible refine (Z54.calls aH aI aJ aK false _ A7.out).mono ?_);rintro e gH ⟨rfl,hb⟩;replace aC:=rB aC hb;replace HB:=rS HB hb;(try clear hb)))
    go_meet
    case rel=>exact ⟨_,(true),xE,H',⟨by omega⟩,⟨bk aC.out⟩,⟨bl HB.out⟩⟩
   subst c8;replace H:=hP H rfl;obtain ⟨cC,eC,H⟩:=hB H;have A9:=aM eC;clear eC
   by_cases bQ:cC=true
   case neg =>
    replace bQ:=Bool.eq_false_iff.mpr bQ;subst bQ;replace H:=hF H;have H':=aM H;clear H;have eT:=cA11 aC.out;go_wp2_with (first|(go_at_call 70;(with_reducible refine (Z54.calls aH aI aJ aK true _ A7.out).mono ?_);rintro e gJ ⟨rfl,hb⟩;replace aC:=rB aC hb;replace HB:=rS HB hb;(try clear hb);have eU:=cA11 aC.out)|(go_at_call 69;(with_reducible refine (Z2.calls aG 0 8 false _ A9.out).mono ?_);rintro e w' ⟨rfl,⟨nd,rfl⟩⟩))
    go_meet
    case rel=>exact ⟨_,(true),xE,H',⟨by omega⟩,⟨bk aC.out⟩,⟨bl HB.out⟩⟩
   subst bQ;replace H:=hP H rfl;obtain ⟨bO,dD,H⟩:=hB H;have eO:=aM dD;clear dD;have H':=aM H;clear H;have eV:=cA11 aC.out;go_wp2_with (first|(go_at_call 70;(with_reducible refine (Z54.calls aH aI aJ aK true _ A7.out).mono ?_);rintro e gK ⟨rfl,hb⟩;replace aC:=rB aC hb;replace HB:=rS HB hb;(try clear hb);have eW:=cA11 aC.out)|(go_at_call 69;(with_reducible refine (Z2.calls aG 0 8 true _ A9.out).mono ?_);rintro e w' ⟨rfl,⟨nd,rfl⟩⟩)|(go_at_call 69;(with_reducible refine (Z2.calls aN 1 3 bO _ eO.out).mono ?_);rintro e w' ⟨rfl,⟨nd,rfl⟩⟩))
   go_meet
   case rel=>exact ⟨_,(!bO),xE,H',⟨by omega⟩,⟨bk aC.out⟩,⟨bl HB.out⟩⟩
  case rest =>
   clear dC
   repeat first|clear c1|clear c2|clear p2|clear c6|clear c8|clear bQ
   obtain ⟨kq,bK,rfl,HA,HJ2,aC,HB⟩:=hcut;cases kq with
   | zero=>exact absurd HA.out (by simp [Z9.j0])
   | succ gM =>
    have H:=HA.out;clear HA;simp only [Z9.j0] at H
    by_cases bT:bK=true
    case pos =>
     subst bT;replace H:=hP H rfl;obtain rfl:=Option.some.inj H;go_wp2
     go_ret
     exact ⟨xW,bl HB.out⟩
    replace bT:=Bool.eq_false_iff.mpr bT;subst bT;replace H:=hF H
    by_cases bH:aA=1
    case pos =>
     rw [if_pos bH] at H
     have cE:(aA == 1)=true:=beq_iff_eq.mpr bH;have cG:(aA != 1)=false:=bne_eq_false_iff_eq.mpr bH;clear bH;obtain ⟨eF,dE,H⟩:=hB H;have cH:=aM dE;clear dE
     by_cases bU:eF=true
     case neg =>
      replace bU:=Bool.eq_false_iff.mpr bU;subst bU;replace H:=hF H;obtain rfl:=Option.some.inj H;have eX:=cA11 aC.out;go_wp2_with (((with_reducible refine gC (f:=69) rfl ?_);refine goesL_ (some 51) rfl rfl Tryd.func69 (by kernel_rfl) rfl #[aA,.int .i64 0,.int .i64 3] rfl xR ?_;(with_reducible refine (Z2.calls aA 0 3 false _ cH.out).mono ?_);rintro e w' ⟨rfl,⟨nd,rfl⟩⟩;refine ⟨_,rfl,?_⟩))
      go_ret
      exact ⟨xW,bl HB.out⟩
     subst bU;replace H:=hP H rfl
     by_cases aV:((aA == 0) == (!aD))=true
     case neg =>
      rw [if_neg aV] at H
      have cK:((aA == 0) == (!aD))=false:=by simpa using aV
      (try (have cL:decide ((aA == 0)=(!aD))=false:=by simpa using aV))
      (try (have cN:((aA == 0) == (!aD))=false:=by simpa using aV))
      (try (have eY:¬ ((aA == 0)=(!aD)):=by simpa using aV))
      clear aV;obtain rfl:=Option.some.inj H;have eZ:=cA11 aC.out;go_wp2_with (((with_reducible refine gC (f:=69) rfl ?_);refine goesL_ (some 51) rfl rfl Tryd.func69 (by kernel_rfl) rfl #[aA,.int .i64 0,.int .i64 3] rfl xR ?_;(with_reducible refine (Z2.calls aA 0 3 true _ cH.out).mono ?_);rintro e w' ⟨rfl,⟨nd,rfl⟩⟩;refine ⟨_,rfl,?_⟩))
      go_ret
      exact ⟨xW,bl HB.out⟩
     rw [if_pos aV] at H
     have cK:((aA == 0) == (!aD))=true:=aV
     (try (have cL:decide ((aA == 0)=(!aD))=true:=by simpa using aV))
     (try (have cN:((aA == 0) == (!aD))=true:=by simpa using aV))
     clear aV;obtain ⟨eG,dF,H⟩:=hB H;have eD:=aM dF;clear dF
     by_cases bV:eG=true
     case pos =>
      subst bV;replace H:=hP H rfl;obtain rfl:=Option.some.inj H;have fA:=cA11 aC.out;go_wp2_with (first|((with_reducible refine gC (f:=69) rfl ?_);refine goesL_ (some 51) rfl rfl Tryd.func69 (by kernel_rfl) rfl #[aA,.int .i64 0,.int .i64 3] rfl xR ?_;(with_reducible refine (Z2.calls aA 0 3 true _ cH.out).mono ?_);rintro e w' ⟨rfl,⟨nd,rfl⟩⟩;refine ⟨_,rfl,?_⟩)|(go_at_call 69;(with_reducible refine (Z2.calls aE 0 4 true _ eD.out).mono ?_);rintro e w' ⟨rfl,⟨nd,rfl⟩⟩))
      go_ret
      exact ⟨xW,bl HB.out⟩
     replace bV:=Bool.eq_false_iff.mpr bV;subst bV;replace H:=hF H;obtain rfl:=Option.some.inj H;have fB:=cA11 aC.out;go_wp2_with (first|((with_reducible refine gC (f:=69) rfl ?_);refine goesL_ (some 51) rfl rfl Tryd.func69 (by kernel_rfl) rfl #[aA,.int .i64 0,.int .i64 3] rfl xR ?_;(with_reducible refine (Z2.calls aA 0 3 true _ cH.out).mono ?_);rintro e w' ⟨rfl,⟨nd,rfl⟩⟩;refine ⟨_,rfl,?_⟩)|(go_at_call 69;(with_reducible refine (Z2.calls aE 0 4 false _ eD.out).mono ?_);rintro e w' ⟨rfl,⟨nd,rfl⟩⟩))
     go_ret
     exact ⟨xW,bl HB.out⟩
    rw [if_neg bH] at H
    have cE:(aA == 1)=false:=beq_eq_false_iff_ne.mpr bH;have cG:(aA != 1)=true:=bne_iff_ne.mpr bH;obtain ⟨eH,dG,H⟩:=hB H;have bW:=aM dG;clear dG
    by_cases bX:eH=true
    case neg =>
     replace bX:=Bool.eq_false_iff.mpr bX;subst bX;replace H:=hF H;obtain rfl:=Option.some.inj H;have fC:=cA11 aC.out;go_wp2_with (((with_reducible refine gC (f:=69) rfl ?_);refine goesL_ (some 51) rfl rfl Tryd.func69 (by kernel_rfl) rfl #[aA,.int .i64 0,.int .i64 3] rfl xR ?_;(with_reducible refine (Z2.calls aA 0 3 false _ bW.out).mono ?_);rintro e w' ⟨rfl,⟨nd,rfl⟩⟩;refine ⟨_,rfl,?_⟩))
     go_ret
     exact ⟨xW,bl HB.out⟩
    subst bX;replace H:=hP H rfl
    by_cases aW:((aA == 0) == (!aD))=true
    case neg =>
     rw [if_neg aW] at H
     have cO:((aA == 0) == (!aD))=false:=by simpa using aW
     (try (have cP:decide ((aA == 0)=(!aD))=false:=by simpa using aW))
     (try (have cQ:((aA == 0) == (!aD))=false:=by simpa using aW))
     (try (have fD:¬ ((aA == 0)=(!aD)):=by simpa using aW))
     clear aW;obtain rfl:=Option.some.inj H;have fE:=cA11 aC.out;go_wp2_with (((with_reducible refine gC (f:=69) rfl ?_);refine goesL_ (some 51) rfl rfl Tryd.func69 (by kernel_rfl) rfl #[aA,.int .i64 0,.int .i64 3] rfl xR ?_;(with_reducible refine (Z2.calls aA 0 3 true _ bW.out).mono ?_);rintro e w' ⟨rfl,⟨nd,rfl⟩⟩;refine ⟨_,rfl,?_⟩))
     go_ret
     exact ⟨xW,bl HB.out⟩
    rw [if_pos aW] at H
    have cO:((aA == 0) == (!aD))=true:=aW
    (try (have cP:decide ((aA == 0)=(!aD))=true:=by simpa using aW))
    (try (have cQ:((aA == 0) == (!aD))=true:=by simpa using aW))
    clear aW;obtain ⟨eI,dH,H⟩:=hB H;have dI:=aM dH;clear dH
    by_cases bY:eI=true
    case neg =>
     replace bY:=Bool.eq_false_iff.mpr bY;subst bY;replace H:=hF H;obtain rfl:=Option.some.inj H;have fF:=cA11 aC.out;go_wp2_with (first|((with_reducible refine gC (f:=69) rfl ?_);refine goesL_ (some 51) rfl rfl Tryd.func69 (by kernel_rfl) rfl #[aA,.int .i64 0,.int .i64 3] rfl xR ?_;(with_reducible refine (Z2.calls aA 0 3 true _ bW.out).mono ?_);rintro e w' ⟨rfl,⟨nd,rfl⟩⟩;refine ⟨_,rfl,?_⟩)|(go_at_call 69;(with_reducible refine (Z2.calls aE 0 4 false _ dI.out).mono ?_);rintro e w' ⟨rfl,⟨nd,rfl⟩⟩))
     go_ret
     exact ⟨xW,bl HB.out⟩
    subst bY;replace H:=hP H rfl
    by_cases bI:aA=2
    case neg =>
     rw [if_neg bI] at H
     have cR:(aA == 2)=false:=beq_eq_false_iff_ne.mpr bI;have cS:(aA != 2)=true:=bne_iff_ne.mpr bI;obtain rfl:=Option.some.inj H;have fG:=cA11 aC.out;go_wp2_with (first|((with_reducible refine gC (f:=69) rfl ?_);refine goesL_ (some 51) rfl rfl Tryd.func69 (by kernel_rfl) rfl #[aA,.int .i64 0,.int .i64 3] rfl xR ?_;(with_reducible refine (Z2.calls aA 0 3 true _ bW.out).mono ?_);rintro e w' ⟨rfl,⟨nd,rfl⟩⟩;refine ⟨_,rfl,?_⟩)|(go_at_call 69;(with_reducible refine (Z2.calls aE 0 4 true _ dI.out).mono ?_);rintro e w' ⟨rfl,⟨nd,rfl⟩⟩))
     go_ret
     exact ⟨xW,bl HB.out⟩
    rw [if_pos bI] at H
    have cR:(aA == 2)=true:=beq_iff_eq.mpr bI;have cS:(aA != 2)=false:=bne_eq_false_iff_eq.mpr bI;clear bI;obtain rfl:=Option.some.inj H;have fH:=cA11 aC.out;go_wp2_with (first|((with_reducible refine gC (f:=69) rfl ?_);refine goesL_ (some 51) rfl rfl Tryd.func69 (by kernel_rfl) rfl #[aA,.int .i64 0,.int .i64 3] rfl xR ?_;(with_reducible refine (Z2.calls aA 0 3 true _ bW.out).mono ?_);rintro e w' ⟨rfl,⟨nd,rfl⟩⟩;refine ⟨_,rfl,?_⟩)|(go_at_call 69;(with_reducible refine (Z2.calls aE 0 4 true _ dI.out).mono ?_);rintro e w' ⟨rfl,⟨nd,rfl⟩⟩))
    go_ret
    exact ⟨xW,bl HB.out⟩
 replace c2:=Bool.eq_false_iff.mpr c2;subst c2;replace H:=hF H;have cD:=aM H;clear H;go_enter Tryd.func89,Tryd.ntmps89
 go_upto_region 4 with (((with_reducible refine gD (N:=1) rfl ?_);refine bE (N:=1) (cs:=#[aD,.bool false,aH,aI,aJ,aK,aG,aN,aA,aE,aQ]) (t:=102) ?_;intro bP hg gO hbox hb;have aC:=aM (hbox);have dO:=gF hg HB;have dP:=gF hg HB;replace HB:=rS HB hb;clear hb hbox hg;have fI:=cA11 aC.out))
 go_cut [40] (fun eP wc=>∃ (kq:Nat) (bG:Bool),eP=.bool bG∧Aside0 (Z9.j1 kq bG aD false aH aI aJ aK aG aN aA aE aQ=some r)∧Aside0 (kq≤k)∧Aside0 (wc.heap[bP]?=some (.cells #[aD,.bool false,aH,aI,aJ,aK,aG,aN,aA,aE,aQ] 102 (0,0)))∧Aside0 (Below w.heap.size w wc))
 case first =>
  have H:=cD.out;clear cD
  by_cases bL:(!(aH == 0) || (!(aI == 0) || (!(aJ == 0) || (!(aK == 0)))))=true
  case pos =>
   rw [if_pos bL] at H
   have bD:(!(aH == 0) || (!(aI == 0) || (!(aJ == 0) || (!(aK == 0)))))=true:=bL;clear bL
   (skip)
   have H':=aM H;clear H;have fK:=cA11 aC.out;go_wp2
   go_meet
   case rel=>exact ⟨_,(true),xE,H',⟨by omega⟩,⟨bk aC.out⟩,⟨bl HB.out⟩⟩
  rw [if_neg bL] at H
  have bD:(!(aH == 0) || (!(aI == 0) || (!(aJ == 0) || (!(aK == 0)))))=false:=by simpa using bL
  clear bL
  (skip)
  by_cases bJ:aG=0
  case neg =>
   rw [if_neg bJ] at H
   have cT:(aG == 0)=false:=beq_eq_false_iff_ne.mpr bJ;have cU:(aG != 0)=true:=bne_iff_ne.mpr bJ;have H':=aM H;clear H;have fL:=cA11 aC.out;go_wp2
   go_meet
   case rel=>exact ⟨_,(true),xE,H',⟨by omega⟩,⟨bk aC.out⟩,⟨bl HB.out⟩⟩
  rw [if_pos bJ] at H
  have cT:(aG == 0)=true:=beq_iff_eq.mpr bJ;have cU:(aG != 0)=false:=bne_eq_false_iff_eq.mpr bJ;clear bJ;have H':=aM H;clear H;have fM:=cA11 aC.out;go_wp2
  go_meet
  case rel=>exact ⟨_,((aN != 0)),xE,H',⟨by omega⟩,⟨bk aC.out⟩,⟨bl HB.out⟩⟩
 case rest =>
  clear cD
  repeat first|clear c2|clear p2|clear c3|clear c4|clear c6|clear c8|clear bT|clear bH|clear cE|clear cG|clear bU|clear aV|clear cK|clear cL|clear cN|clear bV|clear bX|clear aW|clear cO|clear cP|clear cQ|clear bY|clear bI|clear cR|clear cS|clear bL|clear bD|clear bJ|clear cT|clear cU
  obtain ⟨kq,bG,rfl,HA,HJ42,aC,HB⟩:=hcut;cases kq with
  | zero=>exact absurd HA.out (by simp [Z9.j1])
  | succ gG =>
   have H:=HA.out;clear HA;simp only [Z9.j1] at H
   by_cases cV:bG=true
   case pos =>
    subst cV;replace H:=hP H rfl;obtain rfl:=Option.some.inj H;go_wp2
    go_ret
    exact ⟨xW,bl HB.out⟩
   replace cV:=Bool.eq_false_iff.mpr cV;subst cV;replace H:=hF H
   by_cases bM:aA=1
   case pos =>
    rw [if_pos bM] at H
    have dQ:(aA == 1)=true:=beq_iff_eq.mpr bM;have dR:(aA != 1)=false:=bne_eq_false_iff_eq.mpr bM;clear bM;obtain ⟨eJ,dJ,H⟩:=hB H;have cW:=aM dJ;clear dJ
    by_cases cX:eJ=true
    case neg =>
     replace cX:=Bool.eq_false_iff.mpr cX;subst cX;replace H:=hF H;obtain rfl:=Option.some.inj H;have fN:=cA11 aC.out;go_wp2_with (((with_reducible refine gC (f:=69) rfl ?_);refine goesL_ (some 51) rfl rfl Tryd.func69 (by kernel_rfl) rfl #[aA,.int .i64 0,.int .i64 3] rfl xR ?_;(with_reducible refine (Z2.calls aA 0 3 false _ cW.out).mono ?_);rintro e w' ⟨rfl,⟨nd,rfl⟩⟩;refine ⟨_,rfl,?_⟩))
     go_ret
     exact ⟨xW,bl HB.out⟩
    subst cX;replace H:=hP H rfl
    by_cases aX:((aA == 0) == (!aD))=true
    case neg =>
     rw [if_neg aX] at H
     have dS:((aA == 0) == (!aD))=false:=by simpa using aX
     (try (have dU:decide ((aA == 0)=(!aD))=false:=by simpa using aX))
     (try (have dV:((aA == 0) == (!aD))=false:=by simpa using aX))
     (try (have fO:¬ ((aA == 0)=(!aD)):=by simpa using aX))
     clear aX;obtain rfl:=Option.some.inj H;have fP:=cA11 aC.out;go_wp2_with (((with_reducible refine gC (f:=69) rfl ?_);refine goesL_ (some 51) rfl rfl Tryd.func69 (by kernel_rfl) rfl #[aA,.int .i64 0,.int .i64 3] rfl xR ?_;(with_reducible refine (Z2.calls aA 0 3 true _ cW.out).mono ?_);rintro e w' ⟨rfl,⟨nd,rfl⟩⟩;refine ⟨_,rfl,?_⟩))
     go_ret
     exact ⟨xW,bl HB.out⟩
    rw [if_pos aX] at H
    have dS:((aA == 0) == (!aD))=true:=aX
    (try (have dU:decide ((aA == 0)=(!aD))=true:=by simpa using aX))
    (try (have dV:((aA == 0) == (!aD))=true:=by simpa using aX))
    clear aX;obtain ⟨eK,dK,H⟩:=hB H;have eE:=aM dK;clear dK
    by_cases cY:eK=true
    case pos =>
     subst cY;replace H:=hP H rfl;obtain rfl:=Option.some.inj H;have fQ:=cA11 aC.out;go_wp2_with (first|((with_reducible refine gC (f:=69) rfl ?_);refine goesL_ (some 51) rfl rfl Tryd.func69 (by kernel_rfl) rfl #[aA,.int .i64 0,.int .i64 3] rfl xR ?_;(with_reducible refine (Z2.calls aA 0 3 true _ cW.out).mono ?_);rintro e w' ⟨rfl,⟨nd,rfl⟩⟩;refine ⟨_,rfl,?_⟩)|(go_at_call 69;(with_reducible refine (Z2.calls aE 0 4 true _ eE.out).mono ?_);rintro e w' ⟨rfl,⟨nd,rfl⟩⟩))
     go_ret
     exact ⟨xW,bl HB.out⟩
    replace cY:=Bool.eq_false_iff.mpr cY;subst cY;replace H:=hF H;obtain rfl:=Option.some.inj H;have fS:=cA11 aC.out;go_wp2_with (first|((with_reducible refine gC (f:=69) rfl ?_);refine goesL_ (some 51) rfl rfl Tryd.func69 (by kernel_rfl) rfl #[aA,.int .i64 0,.int .i64 3] rfl xR ?_;(with_reducible refine (Z2.calls aA 0 3 true _ cW.out).mono ?_);rintro e w' ⟨rfl,⟨nd,rfl⟩⟩;refine ⟨_,rfl,?_⟩)|(go_at_call 69;(with_reducible refine (Z2.calls aE 0 4 false _ eE.out).mono ?_);rintro e w' ⟨rfl,⟨nd,rfl⟩⟩))
    go_ret
    exact ⟨xW,bl HB.out⟩
   rw [if_neg bM] at H
   have dQ:(aA == 1)=false:=beq_eq_false_iff_ne.mpr bM;have dR:(aA != 1)=true:=bne_iff_ne.mpr bM;obtain ⟨eL,dL,H⟩:=hB H;have bZ:=aM dL;clear dL
   by_cases dA:eL=true
   case neg =>
    replace dA:=Bool.eq_false_iff.mpr dA;subst dA;replace H:=hF H;obtain rfl:=Option.some.inj H;have fT:=cA11 aC.out;go_wp2_with (((with_reducible refine gC (f:=69) rfl ?_);refine goesL_ (some 51) rfl rfl Tryd.func69 (by kernel_rfl) rfl #[aA,.int .i64 0,.int .i64 3] rfl xR ?_;(with_reducible refine (Z2.calls aA 0 3 false _ bZ.out).mono ?_);rintro e w' ⟨rfl,⟨nd,rfl⟩⟩;refine ⟨_,rfl,?_⟩))
    go_ret
    exact ⟨xW,bl HB.out⟩
   subst dA;replace H:=hP H rfl
   by_cases bA:((aA == 0) == (!aD))=true
   case neg =>
    rw [if_neg bA] at H
    have dW:((aA == 0) == (!aD))=false:=by simpa using bA
    (try (have dX:decide ((aA == 0)=(!aD))=false:=by simpa using bA))
    (try (have dY:((aA == 0) == (!aD))=false:=by simpa using bA))
    (try (have fU:¬ ((aA == 0)=(!aD)):=by simpa using bA))
    clear bA;obtain rfl:=Option.some.inj H;have fV:=cA11 aC.out;go_wp2_with (((with_reducible refine gC (f:=69) rfl ?_);refine goesL_ (some 51) rfl rfl Tryd.func69 (by kernel_rfl) rfl #[aA,.int .i64 0,.int .i64 3] rfl xR ?_;(with_reducible refine (Z2.calls aA 0 3 true _ bZ.out).mono ?_);rintro e w' ⟨rfl,⟨nd,rfl⟩⟩;refine ⟨_,rfl,?_⟩))
    go_ret
    exact ⟨xW,bl HB.out⟩
   rw [if_pos bA] at H
   have dW:((aA == 0) == (!aD))=true:=bA
   (try (have dX:decide ((aA == 0)=(!aD))=true:=by simpa using bA))
   (try (have dY:((aA == 0) == (!aD))=true:=by simpa using bA))
   clear bA;obtain ⟨eM,dM,H⟩:=hB H;have dN:=aM dM;clear dM
   by_cases dB:eM=true
   case neg =>
    replace dB:=Bool.eq_false_iff.mpr dB;subst dB;replace H:=hF H;obtain rfl:=Option.some.inj H;have fW:=cA11 aC.out;go_wp2_with (first|((with_reducible refine gC (f:=69) rfl ?_);refine goesL_ (some 51) rfl rfl Tryd.func69 (by kernel_rfl) rfl #[aA,.int .i64 0,.int .i64 3] rfl xR ?_;(with_reducible refine (Z2.calls aA 0 3 true _ bZ.out).mono ?_);rintro e w' ⟨rfl,⟨nd,rfl⟩⟩;refine ⟨_,rfl,?_⟩)|(go_at_call 69;(with_reducible refine (Z2.calls aE 0 4 false _ dN.out).mono ?_);rintro e w' ⟨rfl,⟨nd,rfl⟩⟩))
    go_ret
    exact ⟨xW,bl HB.out⟩
   subst dB;replace H:=hP H rfl
   by_cases bN:aA=2
   case neg =>
    rw [if_neg bN] at H
    have dZ:(aA == 2)=false:=beq_eq_false_iff_ne.mpr bN;have eA:(aA != 2)=true:=bne_iff_ne.mpr bN;obtain rfl:=Option.some.inj H;have fX:=cA11 aC.out;go_wp2_with (first|((with_reducible refine gC (f:=69) rfl ?_);refine goesL_ (some 51) rfl rfl Tryd.func69 (by kernel_rfl) rfl #[aA,.int .i64 0,.int .i64 3] rfl xR ?_;(with_reducible refine (Z2.calls aA 0 3 true _ bZ.out).mono ?_);rintro e w' ⟨rfl,⟨nd,rfl⟩⟩;refine ⟨_,rfl,?_⟩)|(go_at_call 69;(with_reducible refine (Z2.calls aE 0 4 true _ dN.out).mono ?_);rintro e w' ⟨rfl,⟨nd,rfl⟩⟩))
    go_ret
    exact ⟨xW,bl HB.out⟩
   rw [if_pos bN] at H
   have dZ:(aA == 2)=true:=beq_iff_eq.mpr bN;have eA:(aA != 2)=false:=bne_eq_false_iff_eq.mpr bN;clear bN;obtain rfl:=Option.some.inj H;have fY:=cA11 aC.out;go_wp2_with (first|((with_reducible refine gC (f:=69) rfl ?_);refine goesL_ (some 51) rfl rfl Tryd.func69 (by kernel_rfl) rfl #[aA,.int .i64 0,.int .i64 3] rfl xR ?_;(with_reducible refine (Z2.calls aA 0 3 true _ bZ.out).mono ?_);rintro e w' ⟨rfl,⟨nd,rfl⟩⟩;refine ⟨_,rfl,?_⟩)|(go_at_call 69;(with_reducible refine (Z2.calls aE 0 4 true _ dN.out).mono ?_);rintro e w' ⟨rfl,⟨nd,rfl⟩⟩))
   go_ret
   exact ⟨xW,bl HB.out⟩

end Go.Proofs.YtljbdchibfjbdaaDoor.PFnIns
