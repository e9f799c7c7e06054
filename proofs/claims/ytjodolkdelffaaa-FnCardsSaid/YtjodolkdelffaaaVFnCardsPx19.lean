/- A part of the proof of laws.FnCards. No condition beyond what its theorems say. -/
import Derived.Test.YtjodolkdelffaaaVFnCardsPx17
namespace Go.Proofs.Ytjodolkdelffaaa.PFnCards
open Go.RowKit Go.Proofs.YtjodolkdelffaaaW.PrintWords Go.Proofs.YtjodolkdelffaaaW.PrintLast Go.Proofs.YtjodolkdelffaaaW.PrintMore
set_option linter.unusedVariables false
set_option linter.unusedSimpArgs false

def Z55.f (aD aE aG:Int) (aA:List Int):Option (Int × Int × Int × List Int):=(some (([]:List Int):List Int)).bind fun aC=>(if aC.length+aA.length<140737488355328 then (some (aD,aE,aG,(aC++aA))) else (none))
set_option maxHeartbeats 60000000 in
set_option maxRecDepth 100000 in
theorem Z55.calls (aG aH aI:Int) (aW:Option Addr) (aX:Nat) (aC:List Int) (r1 r2 r3:Int) (r4:List Int) (w:World) (hr0_3:Kd.C (Kd.int .u8) w aW aC.length aC) (hc0_3:aC.length≤aX) (h:Z55.f aG aH aI aC=some (r1,r2,r3,r4)) :
  Calls Try.prog 61 #[.agg #[aG,aH,aI,.slice aW aC.length aX]] w fun e w'=>∃ bM:Value,e=.returned (.agg #[r1,r2,r3,bM])∧Kd.R (Kd.int .u8) 5 w' w.heap.size (fun _=>True) bM r4∧Below w.heap.size w w':=by
 have bJ:=aM hr0_3;clear hr0_3 hc0_3;have HB:=aM (Below.refl w.heap.size w);have H:((some (([]:List Int):List Int)).bind fun aN=>(if aN.length+aC.length<140737488355328 then (some (aG,aH,aI,(aN++aC))) else (none)))=some (r1,r2,r3,r4):=h
 clear h;obtain ⟨aN,bG,H⟩:=hS H;have bH:=aM bG;clear bG
 by_cases c2:aN.length+aC.length<140737488355328
 case neg =>
  rw [if_neg c2] at H
  exact absurd H (by simp)
 rw [if_pos c2] at H
 have LMc2:=aM c2;clear c2;obtain ⟨aQ,aJ⟩:∃ y_:List Int,y_=(aN++aC):=⟨_,rfl⟩;replace H:(some (aG,aH,aI,aQ))=some (r1,r2,r3,r4):=by (rw [aJ];with_reducible exact H)
 have bK:=aM aJ;clear aJ;simp only [Option.some.injEq,Prod.mk.injEq] at H;obtain ⟨rfl,rfl,rfl,rfl⟩:=H;go_enter Try.func61,Try.ntmps61
 go_wp2_with (first|((with_reducible refine gD (N:=1) rfl ?_);refine bE (N:=1) (cs:=#[aG,aH,aI,.slice aW aC.length aX]) (t:=30) ?_;intro bL hg w3 hbox hb;have aA:=aM (hbox);have bT:=gF hg HB;replace HB:=rS HB hb;clear hb hbox hg)|((with_reducible refine gD (N:=2) rfl ?_);refine bE (N:=2) (cs:=#[.int .i64 0,.int .i64 0,.int .i64 0,.slice none 0 0]) (t:=30) ?_;intro aK hg w4 hbox hb;have aD:=aM (hbox);have bV:=gF hg HB;have aT:=nM hg aA;have aV:=nH hg aA;replace aA:=rB aA hb;replace HB:=rS HB hb;clear hb hbox hg)|((with_reducible refine gD (N:=3) rfl ?_);refine Kd.R_lit (Kd.int .u8) _ 5 ?hg (N:=3) ?hd (xs:=([]:List Int)) (inner:=[]) (ok:=fun _=>True) (okp:=fun _=>True) ?hr ?hp (fun _ hk=>hk) trivial (Below.refl _ _) (Nat.le_refl _) (by simp) ?_;(case hd=>rfl);(case hg=>rfl);(case hr=>(go_simp;done));(case hp=>exact (Reps.none _ _));intro bN w5 ho6 hb hg_ hnew_;clear hg_ hnew_;(rw [← bH.out] at ho6);have aE:=aM (Kd.R_lower ho6 (below_size (bl HB.out)));replace aA:=rB aA hb;replace aD:=rB aD hb;replace HB:=rS HB hb;clear hb ho6;have cA:=aV.out;have cC:=cA4 aA.out)|((with_reducible refine gate_builtin (b:=.append) (xs:=#[.tmp 3,.tmp 5]) rfl ?_);at_builtin;refine Kd.R_append_rows (Kd.int .u8) (w0:=w) w.heap.size rfl (.tmp 3) (.tmp 5) 22 5 (.int .u8 0) 1 rfl Try.underlying22 info5 rfl (by decide) (by omega) bN aN aC _ _ _ (fun _=>True) (fun _=>False) rfl rfl ?aO ?aR (fun _ _ h=>h) (fun _ h=>h.elim) ?aF ?aB ?aS ?aL ?_;(case aR=>repeat (exact (cB bJ.out HB.out)));(case aB=>exact (bl HB.out));(case aF=>exact (fun _ _=>trivial));(case aO=>exact (kr aE.out));(case aS=>exact (below_size (bl HB.out)));(case aL=>have:=LMc2.out;omega);intro cD w9 ho hb hg hat;rw [← bK.out] at ho;have bI:=aM (ho);replace aA:=aM (blk_grown (bk aA.out) hg (Kd.R_ne aE.out aA.out (by decide)));replace aD:=aM (blk_grown (bk aD.out) hg (Kd.R_ne aE.out aD.out (by decide)));replace HB:=aM (hb);clear aE;clear ho hb hg hat;obtain ⟨bA,bD,bO⟩:=Kd.R_slice bI.out;subst bO;have bW:=cA4 aA.out;have bX:=cA4 aD.out))
 refine bodyPost_ret (results_cell_row rfl _ _ aK 30 #[aG,aH,aI,.slice bA aQ.length bD] (0,0) _ rfl (bm aD.out) Try.underlying30 rfl (by kernel_rfl)) rfl ?_
 exact ⟨_,xW,by (with_reducible repeat (first|apply Kd.R_alloc|apply Kd.R_drewN|apply Kd.R_drew));exact Kd.R_mono (rF4 (g:=aK) (kF (p:=⟨bL,3,none⟩) (Kd.R_types (Kd.R_types bI.out aA.out (by decide)) aD.out (by decide)) (fun _ hk=>hk.1.2) (.slice bA aQ.length bD)) (fun _ hk=>hk.2) (.int .i64 aG) (.int .i64 aH) (.int .i64 aI) (.slice bA aQ.length bD)) (fun _ hk=>trivial),bl HB.out⟩

def Z51.f (aA aC aD:Int) (aE:List Int):Option (Bool):=(Z5.f aA 0 9).bind fun aG=>(if aG=true then ((Z5.f aC 1 9).bind fun aH=>(if aH=true then ((Z5.f aD 0 4).bind fun aI=>(if aI=true then (some (decide ((aE.length:Int)≤30))) else (some false))) else (some false))) else (some false))
set_option maxHeartbeats 60000000 in
set_option maxRecDepth 100000 in
theorem Z51.calls (aA aC aE:Int) (aH:Option Addr) (aI:Nat) (aD:List Int) (r:Bool) (w:World) (hr0_3:Kd.C (Kd.int .u8) w aH aD.length aD) (hc0_3:aD.length≤aI) (h:Z51.f aA aC aE aD=some r) :
  Calls Try.prog 62 #[.agg #[aA,aC,aE,.slice aH aD.length aI]] w fun e w'=>e=.returned (.bool r)∧Below w.heap.size w w':=by
 clear hr0_3 hc0_3;have HB:=aM (Below.refl w.heap.size w);have H:((Z5.f aA 0 9).bind fun aQ=>(if aQ=true then ((Z5.f aC 1 9).bind fun aT=>(if aT=true then ((Z5.f aE 0 4).bind fun aV=>(if aV=true then (some (decide ((aD.length:Int)≤30))) else (some false))) else (some false))) else (some false)))=some r:=h
 clear h;obtain ⟨aQ,aW,H⟩:=hB H;have A2:=aM aW;clear aW
 by_cases c3:aQ=true
 case neg =>
  replace c3:=Bool.eq_false_iff.mpr c3;subst c3;replace H:=hF H;obtain rfl:=Option.some.inj H;go_enter Try.func62,Try.ntmps62
  go_wp2_with (first|((with_reducible refine gD (N:=1) rfl ?_);(try (refine gate_guard (by rfl) ?_;dsimp only));refine bE (N:=1) (cs:=#[aA,aC,aE,.slice aH aD.length aI]) (t:=30) ?_;intro aJ hg bM hbox hb;have aG:=aM (hbox);replace HB:=rS HB hb;clear hb hbox hg;have bH:=cA4 aG.out)|((with_reducible refine gC (f:=31) rfl ?_);refine gL (some 5) Try.func31 #[aA,.int .i64 0,.int .i64 9] ?_;(with_reducible refine (Z5.calls aA 0 9 false _ A2.out).mono ?_);rintro e w' ⟨rfl,⟨nd,rfl⟩⟩;refine ⟨_,rfl,?_⟩))
  go_ret
  exact ⟨xW,bl HB.out⟩
 subst c3;replace H:=hP H rfl;obtain ⟨aT,aX,H⟩:=hB H;have A4:=aM aX;clear aX
 by_cases c5:aT=true
 case neg =>
  replace c5:=Bool.eq_false_iff.mpr c5;subst c5;replace H:=hF H;obtain rfl:=Option.some.inj H;go_enter Try.func62,Try.ntmps62
  go_wp2_with (first|((with_reducible refine gD (N:=1) rfl ?_);(try (refine gate_guard (by rfl) ?_;dsimp only));refine bE (N:=1) (cs:=#[aA,aC,aE,.slice aH aD.length aI]) (t:=30) ?_;intro aJ hg bN hbox hb;have aG:=aM (hbox);replace HB:=rS HB hb;clear hb hbox hg;have bI:=cA4 aG.out)|((with_reducible refine gC (f:=31) rfl ?_);refine gL (some 5) Try.func31 #[aA,.int .i64 0,.int .i64 9] ?_;(with_reducible refine (Z5.calls aA 0 9 true _ A2.out).mono ?_);rintro e w' ⟨rfl,⟨nd,rfl⟩⟩;refine ⟨_,rfl,?_⟩)|(go_at_call 31;(with_reducible refine (Z5.calls aC 1 9 false _ A4.out).mono ?_);rintro e w' ⟨rfl,⟨nd,rfl⟩⟩))
  go_ret
  exact ⟨xW,bl HB.out⟩
 subst c5;replace H:=hP H rfl;obtain ⟨aV,bA,H⟩:=hB H;have A6:=aM bA;clear bA
 by_cases c7:aV=true
 case pos =>
  subst c7;replace H:=hP H rfl;obtain rfl:=Option.some.inj H;go_enter Try.func62,Try.ntmps62
  go_wp2_with (first|((with_reducible refine gD (N:=1) rfl ?_);(try (refine gate_guard (by rfl) ?_;dsimp only));refine bE (N:=1) (cs:=#[aA,aC,aE,.slice aH aD.length aI]) (t:=30) ?_;intro aJ hg w8 hbox hb;have aG:=aM (hbox);replace HB:=rS HB hb;clear hb hbox hg;have bL:=cA4 aG.out)|((with_reducible refine gC (f:=31) rfl ?_);refine gL (some 5) Try.func31 #[aA,.int .i64 0,.int .i64 9] ?_;(with_reducible refine (Z5.calls aA 0 9 true _ A2.out).mono ?_);rintro e w' ⟨rfl,⟨nd,rfl⟩⟩;refine ⟨_,rfl,?_⟩)|(go_at_call 31;(with_reducible refine (Z5.calls aC 1 9 true _ A4.out).mono ?_);rintro e w' ⟨rfl,⟨nd,rfl⟩⟩)|(go_at_call 31;(with_reducible refine (Z5.calls aE 0 4 true _ A6.out).mono ?_);rintro e w' ⟨rfl,⟨nd,rfl⟩⟩))
  go_ret
  exact ⟨xW,bl HB.out⟩
 replace c7:=Bool.eq_false_iff.mpr c7;subst c7;replace H:=hF H;obtain rfl:=Option.some.inj H;go_enter Try.func62,Try.ntmps62
 go_wp2_with (first|((with_reducible refine gD (N:=1) rfl ?_);(try (refine gate_guard (by rfl) ?_;dsimp only));refine bE (N:=1) (cs:=#[aA,aC,aE,.slice aH aD.length aI]) (t:=30) ?_;intro aJ hg bO hbox hb;have aG:=aM (hbox);replace HB:=rS HB hb;clear hb hbox hg;have bJ:=cA4 aG.out)|((with_reducible refine gC (f:=31) rfl ?_);refine gL (some 5) Try.func31 #[aA,.int .i64 0,.int .i64 9] ?_;(with_reducible refine (Z5.calls aA 0 9 true _ A2.out).mono ?_);rintro e w' ⟨rfl,⟨nd,rfl⟩⟩;refine ⟨_,rfl,?_⟩)|(go_at_call 31;(with_reducible refine (Z5.calls aC 1 9 true _ A4.out).mono ?_);rintro e w' ⟨rfl,⟨nd,rfl⟩⟩)|(go_at_call 31;(with_reducible refine (Z5.calls aE 0 4 false _ A6.out).mono ?_);rintro e w' ⟨rfl,⟨nd,rfl⟩⟩))
 go_ret
 exact ⟨xW,bl HB.out⟩

def Z29.j0:Nat→Int→List Int→Int→Int→Int→List Int→Int→Int→Int→List Int→Option (Int × Int × Int × List Int × Bool)
 | 0,_,_,_,_,_,_,_,_,_,_=>none
 | k+1,aD,aA,aE,aG,aH,aI,aJ,aK,aC,aN=>(Z16.f k aD aA).bind fun aQ=>(if aQ=true then ((Z51.f aE aG aH aI).bind fun aT=>(if aT=true then ((Z22.f k aA aC).bind fun aV=>(if aV=true then (some (aJ,aK,aC,aN,true)) else (some (0,0,0,([]:List Int),false)))) else (some (0,0,0,([]:List Int),false)))) else (some (0,0,0,([]:List Int),false)))
def Z29.f (k:Nat) (aD:Int) (aI:List Int) (aE aG aC:Int) (aH:List Int):Option (Int × Int × Int × List Int × Bool):=(Z55.f aE aG aC aH).bind fun aA=>(if aC=0 then (Z29.j0 k aD aI aE aG aC aH aA.1 aA.2.1 aD aA.2.2.2) else (Z29.j0 k aD aI aE aG aC aH aA.1 aA.2.1 aA.2.2.1 aA.2.2.2))
theorem Z29.mono_l:∀ k,(∀ y0 y1 y2 y3 y4 y5 y6 y7 y8 y9,LeO (Z29.j0 k y0 y1 y2 y3 y4 y5 y6 y7 y8 y9) (Z29.j0 (k+1) y0 y1 y2 y3 y4 y5 y6 y7 y8 y9))
 | 0=>fun _ _ _ _ _ _ _ _ _ _ r h=>by simp [Z29.j0] at h
 | k+1=>by
  have ih0:=Z29.mono_l k
  ·intro y0 y1 y2 y3 y4 y5 y6 y7 y8 y9
   unfold Z29.j0
   repeat' (with_reducible first|apply Z16.mono|apply Z22.mono|exact lR _|refine lI ?_ ?_|refine lB ?_ fun _=>?_)
theorem Z29.mono:∀ a0 a1 a2 a3 a4 a5 k,LeO (Z29.f k a0 a1 a2 a3 a4 a5) (Z29.f (k+1) a0 a1 a2 a3 a4 a5):=by
 intro a0 a1 a2 a3 a4 a5 k;have ih0:=Z29.mono_l k;unfold Z29.f
 repeat' (with_reducible first|apply ih0|exact lR _|refine lI ?_ ?_|refine lB ?_ fun _=>?_)
set_option maxHeartbeats 60000000 in
set_option maxRecDepth 100000 in
theorem Z29.calls (k:Nat) (aJ:Int) (bV:Option Addr) (bW:Nat) (aH:List Int) (bD bG aI:Int) (cL:Option Addr) (cN:Nat) (aN:List Int) (r1 r2 r3:Int) (r4:List Int) (r5:Bool) (w:World) (hr0_1:Kd.C (Kd.int .i64) w bV aH.length aH) (hc0_1:aH.length≤bW) (hr1_3:Kd.C (Kd.int .u8) w cL aN.length aN) (hc1_3:aN.length≤cN) (h:Z29.f k aJ aH bD bG aI aN=some (r1,r2,r3,r4,r5)) :
  Calls Try.prog 32 #[.agg #[aJ,.slice bV aH.length bW],.agg #[bD,bG,aI,.slice cL aN.length cN]] w fun e w'=>∃ dE:Value,e=.returned (.tuple #[.agg #[r1,r2,r3,dE],r5])∧Kd.R (Kd.int .u8) 5 w' w.heap.size (fun _=>True) dE r4∧Below w.heap.size w w':=by
 have bX:=aM hr0_1;have bY:=aM hc0_1;clear hr0_1 hc0_1;have cH:=aM hr1_3;have cK:=aM hc1_3;clear hr1_3 hc1_3;have HB:=aM (Below.refl w.heap.size w);have H:((Z55.f bD bG aI aN).bind fun bU=>(if aI=0 then (Z29.j0 k aJ aH bD bG aI aN bU.1 bU.2.1 aJ bU.2.2.2) else (Z29.j0 k aJ aH bD bG aI aN bU.1 bU.2.1 bU.2.2.1 bU.2.2.2)))=some (r1,r2,r3,r4,r5):=h
 clear h;obtain ⟨⟨bP,bQ,cE,bT⟩,dF,H⟩:=hB H
 try dsimp only at H
 have A3:=aM dF;clear dF;have cU:=aM H;clear H;go_enter Try.func32,Try.ntmps32
 go_upto_if 11 with (first|((with_reducible refine gD (N:=2) rfl ?_);refine bE (N:=2) (cs:=#[aJ,.slice bV aH.length bW]) (t:=42) ?_;intro dC hg w5 hbox hb;have aE:=aM (hbox);replace HB:=rS HB hb;clear hb hbox hg)|((with_reducible refine gD (N:=3) rfl ?_);refine bE (N:=3) (cs:=#[bD,bG,aI,.slice cL aN.length cN]) (t:=30) ?_;intro dD hg w6 hbox hb;have aA:=aM (hbox);have aQ:=nM hg aE;have aT:=nH hg aE;replace aE:=rB aE hb;replace HB:=rS HB hb;clear hb hbox hg)|((with_reducible refine gD (N:=4) rfl ?_);refine bE (N:=4) (cs:=#[.int .i64 0,.int .i64 0,.int .i64 0,.slice none 0 0]) (t:=30) ?_;intro bO hg w7 hbox hb;have aD:=aM (hbox);have dQ:=gF hg HB;have bI:=nM hg aE;have bJ:=nH hg aE;have bK:=nM hg aA;have bL:=nH hg aA;replace aE:=rB aE hb;replace aA:=rB aA hb;replace HB:=rS HB hb;clear hb hbox hg;have dR:=cA4 aA.out)|((with_reducible refine gC (f:=61) rfl ?_);refine gL (some 8) Try.func61 #[.agg #[bD,bG,aI,.slice cL aN.length cN]] ?_;(with_reducible refine (Z55.calls bD bG aI _ _ aN bP bQ cE bT _ ?side1 ?side2 A3.out).mono ?_);(case side1=>exact cM (cB cH.out HB.out));(case side2=>exact cK.out);rintro e iH ⟨iG,rfl,ho0,hb⟩;refine ⟨_,rfl,?_⟩;have bZ:=aM (Kd.R_lower ho0 (below_size (bl HB.out)));replace aE:=rB aE hb;replace aA:=rB aA hb;replace aD:=rB aD hb;replace HB:=rS HB hb;(repeat first|clear hb|clear ho0))|((with_reducible refine gD (N:=6) rfl ?_);refine bR bZ (N:=6) (cs:=#[.int .i64 0,.int .i64 0,.int .i64 0,.slice none 0 0]) (t:=30) ?_;intro bH hg iI hbox hb;have aC:=aM (hbox);have dU:=gF hg HB;have aV:=nM hg aE;have aW:=nH hg aE;have bM:=nM hg aA;have bN:=nH hg aA;have aX:=nM hg aD;have bA:=nH hg aD;replace bZ:=rK bZ hb;replace aE:=rB aE hb;replace aA:=rB aA hb;replace aD:=rB aD hb;replace HB:=rS HB hb;clear hb hbox hg;have dY:=bM.out;have dZ:=bA.out;have eA:=aX.out;have eB:=cA4 aC.out;obtain ⟨cC,cD,dH⟩:=Kd.R_slice bZ.out;subst dH;have eC:=cA4 aA.out))
 go_cut [] (fun wc=>∃ (kq:Nat) (aK:Int),Aside0 (Z29.j0 kq aJ aH bD bG aI aN bP bQ aK bT=some (r1,r2,r3,r4,r5))∧Aside0 (kq≤k)∧Aside0 (Kd.R (Kd.int .u8) 5 wc w.heap.size (fun _=>True) (.slice cC bT.length cD) bT)∧Aside0 (wc.heap[dC]?=some (.cells #[aJ,(.slice bV aH.length bW)] 42 (0,0)))∧Aside0 (wc.heap[dD]?=some (.cells #[bD,bG,aI,(.slice cL aN.length cN)] 30 (0,0)))∧Aside0 (wc.heap[bO]?=some (.cells #[.int .i64 0,.int .i64 0,.int .i64 0,(.slice none 0 0)] 30 (0,0)))∧Aside0 (wc.heap[bH]?=some (.cells #[bP,bQ,aK,(.slice cC bT.length cD)] 30 (0,0)))∧Aside0 (Below w.heap.size w wc))
 case first =>
  have H:=cU.out;clear cU
  by_cases cG:aI=0
  case neg =>
   rw [if_neg cG] at H
   have cA:(aI == 0)=false:=beq_eq_false_iff_ne.mpr cG;have cP:(aI != 0)=true:=bne_iff_ne.mpr cG
   (rw [cA])
   have H':=aM H;clear H;go_wp2
   go_meet
   case rel=>exact ⟨_,(cE),H',⟨by omega⟩,⟨kr (Kd.R_mono (rT4 bZ.out aC.out (.int .i64 bP) (.int .i64 bQ) (.int .i64 cE) (.slice cC bT.length cD)) (fun _ hk=>trivial))⟩,⟨fm aE.out⟩,⟨fm aA.out⟩,⟨fm aD.out⟩,⟨bm aC.out⟩,⟨bl HB.out⟩⟩
  rw [if_pos cG] at H
  have cA:(aI == 0)=true:=beq_iff_eq.mpr cG;have cP:(aI != 0)=false:=bne_eq_false_iff_eq.mpr cG;clear cG
  (rw [cA])
  have H':=aM H;clear H;have eI:=aW.out;have eJ:=cA2 aE.out;have eK:=bN.out;have eL:=bM.out;have eM:=bA.out;have eN:=aX.out;go_wp2
  go_meet
  case rel=>exact ⟨_,(aJ),H',⟨by omega⟩,⟨kr (Kd.R_mono (kF (p:=⟨bH,2,none⟩) (rF4 (g:=bH) (Kd.R_types bZ.out aC.out (by decide)) (fun _ hk=>hk.2) (.int .i64 bP) (.int .i64 bQ) (.int .i64 cE) (.slice cC bT.length cD)) (fun _ hk=>hk.2) (.int .i64 aJ)) (fun _ hk=>trivial))⟩,⟨fm aE.out⟩,⟨fm aA.out⟩,⟨fm aD.out⟩,⟨by (with_reducible repeat (first|refine blk_drewN ?_ _|refine blk_drew ?_|refine blk_alloc ?_ _));refine blk_put (cs:=#[bP,bQ,cE,.slice cC bT.length cD]) ?_ 2 _ rfl;(with_reducible repeat (first|refine blk_drewN ?_ _|refine blk_drew ?_|refine blk_alloc ?_ _));refine blk_put (cs:=#[bP,bQ,cE,.slice none 0 0]) ?_ 3 _ rfl;(with_reducible repeat (first|refine blk_drewN ?_ _|refine blk_drew ?_|refine blk_alloc ?_ _));refine blk_put (cs:=#[bP,bQ,.int .i64 0,.slice none 0 0]) ?_ 2 _ rfl;(with_reducible repeat (first|refine blk_drewN ?_ _|refine blk_drew ?_|refine blk_alloc ?_ _));refine blk_put (cs:=#[bP,.int .i64 0,.int .i64 0,.slice none 0 0]) ?_ 1 _ rfl;(with_reducible repeat (first|refine blk_drewN ?_ _|refine blk_drew ?_|refine blk_alloc ?_ _));refine blk_put (cs:=#[.int .i64 0,.int .i64 0,.int .i64 0,.slice none 0 0]) ?_ 0 _ rfl;(with_reducible repeat (first|refine blk_drewN ?_ _|refine blk_drew ?_|refine blk_alloc ?_ _));exact aC.out⟩,⟨bl HB.out⟩⟩
 case rest =>
  clear cU
  repeat first|clear c1|clear c2|clear p2|clear c3|clear c6|clear c8|clear c9|clear iJ|clear iK|clear iL|clear cG|clear cA|clear cP|clear iM|clear iN|clear iO|clear iP|clear iQ
  obtain ⟨kq,aK,HA,HJ3,aG,aE,aA,aD,aC,HB⟩:=hcut;cases kq with
  | zero=>exact absurd HA.out (by simp [Z29.j0])
  | succ cO =>
   have H:=HA.out;clear HA;simp only [Z29.j0] at H;obtain ⟨dI,cV,H⟩:=hB H;have cQ:=aM cV;clear cV
   by_cases cR:dI=true
   case neg =>
    replace cR:=Bool.eq_false_iff.mpr cR;subst cR;replace H:=hF H;simp only [Option.some.injEq,Prod.mk.injEq] at H;obtain ⟨rfl,rfl,rfl,rfl,rfl⟩:=H;have eV:=cA2 aE.out;go_wp2_with (((with_reducible refine gC (f:=47) rfl ?_);refine gL (some 16) Try.func47 #[.agg #[aJ,.slice bV aH.length bW]] ?_;(with_reducible refine (Z16.calls cO aJ _ _ aH false _ ?side1 ?side2 cQ.out).mono ?_);(case side1=>exact cM (cB bX.out HB.out));(case side2=>exact bY.out);rintro e iR ⟨rfl,hb⟩;refine ⟨_,rfl,?_⟩;replace aG:=rK aG hb;replace aE:=rB aE hb;replace aA:=rB aA hb;replace aD:=rB aD hb;replace aC:=rB aC hb;replace HB:=rS HB hb;(try clear hb);have fA:=cA4 aD.out;have hcw_gb703_0:=cI aC.out 0;have hcw_gb703_1:=cI aC.out 1;have hcw_gb703_2:=cI aC.out 2;have hcw_gb703_3:=cI aC.out 3))
    refine bodyPost_ret (results_ct rfl _ _ bO 30 #[.int .i64 0,.int .i64 0,.int .i64 0,.slice none 0 0] (0,0) _ rfl (bm aD.out) Try.underlying30 rfl (by kernel_rfl)) rfl ?_
    exact ⟨_,xW,by exact Kd.R_nil _ _ _ _ _,bl HB.out⟩
   subst cR;replace H:=hP H rfl;obtain ⟨dJ,cW,H⟩:=hB H;have cX:=aM cW;clear cW
   by_cases cS:dJ=true
   case neg =>
    replace cS:=Bool.eq_false_iff.mpr cS;subst cS;replace H:=hF H;simp only [Option.some.injEq,Prod.mk.injEq] at H;obtain ⟨rfl,rfl,rfl,rfl,rfl⟩:=H;have fH:=cA2 aE.out;go_wp2_with (first|((with_reducible refine gC (f:=47) rfl ?_);refine gL (some 16) Try.func47 #[.agg #[aJ,.slice bV aH.length bW]] ?_;(with_reducible refine (Z16.calls cO aJ _ _ aH true _ ?side1 ?side2 cQ.out).mono ?_);(case side1=>exact cM (cB bX.out HB.out));(case side2=>exact bY.out);rintro e iS ⟨rfl,hb⟩;refine ⟨_,rfl,?_⟩;replace aG:=rK aG hb;replace aE:=rB aE hb;replace aA:=rB aA hb;replace aD:=rB aD hb;replace aC:=rB aC hb;replace HB:=rS HB hb;(try clear hb);have fN:=cA4 aA.out;have hcw_gb703_0:=cI aC.out 0;have hcw_gb703_1:=cI aC.out 1;have hcw_gb703_2:=cI aC.out 2;have hcw_gb703_3:=cI aC.out 3)|(go_at_call 62;(with_reducible refine (Z51.calls bD bG aI _ _ aN false _ ?side1 ?side2 cX.out).mono ?_);(case side1=>exact cM (cB cH.out HB.out));(case side2=>exact cK.out);rintro e iT ⟨rfl,hb⟩;replace aG:=rK aG hb;replace aE:=rB aE hb;replace aA:=rB aA hb;replace aD:=rB aD hb;replace aC:=rB aC hb;replace HB:=rS HB hb;(try clear hb);have fQ:=cA4 aD.out;have hcw_gb703_0:=cI aC.out 0;have hcw_gb703_1:=cI aC.out 1;have hcw_gb703_2:=cI aC.out 2;have hcw_gb703_3:=cI aC.out 3))
    refine bodyPost_ret (results_ct rfl _ _ bO 30 #[.int .i64 0,.int .i64 0,.int .i64 0,.slice none 0 0] (0,0) _ rfl (bm aD.out) Try.underlying30 rfl (by kernel_rfl)) rfl ?_
    exact ⟨_,xW,by exact Kd.R_nil _ _ _ _ _,bl HB.out⟩
   subst cS;replace H:=hP H rfl;obtain ⟨dK,cY,H⟩:=hB H;have dG:=aM cY;clear cY
   by_cases cT:dK=true
   case pos =>
    subst cT;replace H:=hP H rfl;simp only [Option.some.injEq,Prod.mk.injEq] at H;obtain ⟨rfl,rfl,rfl,rfl,rfl⟩:=H;have fY:=cA2 aE.out;go_wp2_with (first|((with_reducible refine gC (f:=47) rfl ?_);refine gL (some 16) Try.func47 #[.agg #[aJ,.slice bV aH.length bW]] ?_;(with_reducible refine (Z16.calls cO aJ _ _ aH true _ ?side1 ?side2 cQ.out).mono ?_);(case side1=>exact cM (cB bX.out HB.out));(case side2=>exact bY.out);rintro e iU ⟨rfl,hb⟩;refine ⟨_,rfl,?_⟩;replace aG:=rK aG hb;replace aE:=rB aE hb;replace aA:=rB aA hb;replace aD:=rB aD hb;replace aC:=rB aC hb;replace HB:=rS HB hb;(try clear hb);have gJ:=cA4 aA.out;have hcw_gb703_0:=cI aC.out 0;have hcw_gb703_1:=cI aC.out 1;have hcw_gb703_2:=cI aC.out 2;have hcw_gb703_3:=cI aC.out 3)|(go_at_call 62;(with_reducible refine (Z51.calls bD bG aI _ _ aN true _ ?side1 ?side2 cX.out).mono ?_);(case side1=>exact cM (cB cH.out HB.out));(case side2=>exact cK.out);rintro e dA ⟨rfl,hb⟩;replace aG:=rK aG hb;replace aE:=rB aE hb;replace aA:=rB aA hb;replace aD:=rB aD hb;replace aC:=rB aC hb;replace HB:=rS HB hb;(try clear hb);have gK:=cA2 aE.out;have gO:=cA4 aC.out)|(go_at_call 63;(with_reducible refine (Z22.calls cO _ _ aH aK true _ ?side1 ?side2 dG.out).mono ?_);(case side1=>exact cM (cB bX.out HB.out));(case side2=>exact bY.out);rintro e w' ⟨rfl,⟨nd,rfl⟩⟩;(try (rw [drewN_self dA];generalize hq_:World.drewN dA _=dA;replace aG:=qR hq_ (kr aG.out);replace aE:=qB hq_ (bk aE.out);replace aA:=qB hq_ (bk aA.out);replace aD:=qB hq_ (bk aD.out);replace aC:=qB hq_ (bk aC.out);replace HB:=qL hq_ (bl HB.out);clear hq_));have gP:=cA4 aD.out;have hcw_gb703_0:=cI aC.out 0;have hcw_gb703_1:=cI aC.out 1;have hcw_gb703_2:=cI aC.out 2;have hcw_gb703_3:=cI aC.out 3))
    refine bodyPost_ret (results_ct rfl _ _ bO 30 #[bP,bQ,aK,.slice cC bT.length cD] (0,0) _ rfl (bm aD.out) Try.underlying30 rfl (by kernel_rfl)) rfl ?_
    exact ⟨_,xW,by (with_reducible repeat (first|apply Kd.R_alloc|apply Kd.R_drewN|apply Kd.R_drew));exact Kd.R_mono (rT4 aG.out aD.out (.int .i64 bP) (.int .i64 bQ) (.int .i64 aK) (.slice cC bT.length cD)) (fun _ hk=>trivial),bl HB.out⟩
   replace cT:=Bool.eq_false_iff.mpr cT;subst cT;replace H:=hF H;simp only [Option.some.injEq,Prod.mk.injEq] at H;obtain ⟨rfl,rfl,rfl,rfl,rfl⟩:=H;have gW:=cA2 aE.out;go_wp2_with (first|((with_reducible refine gC (f:=47) rfl ?_);refine gL (some 16) Try.func47 #[.agg #[aJ,.slice bV aH.length bW]] ?_;(with_reducible refine (Z16.calls cO aJ _ _ aH true _ ?side1 ?side2 cQ.out).mono ?_);(case side1=>exact cM (cB bX.out HB.out));(case side2=>exact bY.out);rintro e iV ⟨rfl,hb⟩;refine ⟨_,rfl,?_⟩;replace aG:=rK aG hb;replace aE:=rB aE hb;replace aA:=rB aA hb;replace aD:=rB aD hb;replace aC:=rB aC hb;replace HB:=rS HB hb;(try clear hb);have hH:=cA4 aA.out;have hcw_gb703_0:=cI aC.out 0;have hcw_gb703_1:=cI aC.out 1;have hcw_gb703_2:=cI aC.out 2;have hcw_gb703_3:=cI aC.out 3)|(go_at_call 62;(with_reducible refine (Z51.calls bD bG aI _ _ aN true _ ?side1 ?side2 cX.out).mono ?_);(case side1=>exact cM (cB cH.out HB.out));(case side2=>exact cK.out);rintro e dB ⟨rfl,hb⟩;replace aG:=rK aG hb;replace aE:=rB aE hb;replace aA:=rB aA hb;replace aD:=rB aD hb;replace aC:=rB aC hb;replace HB:=rS HB hb;(try clear hb);have hJ:=cA2 aE.out;have hY:=cA4 aC.out)|(go_at_call 63;(with_reducible refine (Z22.calls cO _ _ aH aK false _ ?side1 ?side2 dG.out).mono ?_);(case side1=>exact cM (cB bX.out HB.out));(case side2=>exact bY.out);rintro e w' ⟨rfl,⟨nd,rfl⟩⟩;(try (rw [drewN_self dB];generalize hq_:World.drewN dB _=dB;replace aG:=qR hq_ (kr aG.out);replace aE:=qB hq_ (bk aE.out);replace aA:=qB hq_ (bk aA.out);replace aD:=qB hq_ (bk aD.out);replace aC:=qB hq_ (bk aC.out);replace HB:=qL hq_ (bl HB.out);clear hq_));have hZ:=cA4 aD.out;have hcw_gb703_0:=cI aC.out 0;have hcw_gb703_1:=cI aC.out 1;have hcw_gb703_2:=cI aC.out 2;have hcw_gb703_3:=cI aC.out 3))
   refine bodyPost_ret (results_ct rfl _ _ bO 30 #[.int .i64 0,.int .i64 0,.int .i64 0,.slice none 0 0] (0,0) _ rfl (bm aD.out) Try.underlying30 rfl (by kernel_rfl)) rfl ?_
   exact ⟨_,xW,by exact Kd.R_nil _ _ _ _ _,bl HB.out⟩

def Z30.l0:Nat→List (S72)→Int→Int→Int→Option (Int × Bool)
 | 0,_,_,_,_=>none
 | k+1,x0,x1,x2,x8=>if x8<(x0.length:Int) then (if 0≤x8 then (if ((rd_T72 x0 x8).f0)=x1 then (if ((rd_T72 x0 x8).f1)=x2 then (some ((rd_T72 x0 x8).f2,true)) else (Z30.l0 k x0 x1 x2 (wrap64 (x8+1)))) else (Z30.l0 k x0 x1 x2 (wrap64 (x8+1)))) else (none)) else (some (0,false))
def Z30.f (k:Nat) (l0:List (S72)) (a1 a2:Int):Option (Int × Bool):=Z30.l0 k l0 a1 a2 0
theorem Z30.mono_l:∀ k,(∀ y0 y1 y2 y3,LeO (Z30.l0 k y0 y1 y2 y3) (Z30.l0 (k+1) y0 y1 y2 y3))
 | 0=>fun _ _ _ _ r h=>by simp [Z30.l0] at h
 | k+1=>by
  have ih0:=Z30.mono_l k
  ·intro y0 y1 y2 y3
   unfold Z30.l0
   repeat' (with_reducible first|apply ih0|exact lR _|refine lI ?_ ?_)
theorem Z30.mono:∀ a0 a1 a2 k,LeO (Z30.f k a0 a1 a2) (Z30.f (k+1) a0 a1 a2):=by
 intro a0 a1 a2 k;have ih0:=Z30.mono_l k;unfold Z30.f
 repeat' (with_reducible apply ih0)
set_option maxHeartbeats 60000000 in
set_option maxRecDepth 100000 in
theorem Z30.calls (k:Nat) (A0:Option Addr) (c0:Nat) (l0:List (S72)) (a1 a2 r1:Int) (r2:Bool) (w:World) (hr0:Kd.C k72 w A0 l0.length l0) (hc0:l0.length≤c0) (h:Z30.f k l0 a1 a2=some (r1,r2)) :
  Calls Try.prog 33 #[.slice A0 l0.length c0,a1,a2] w fun e w'=>e=.returned (.tuple #[r1,r2])∧Drawn0 w w':=by
 have aJ:=aM hr0;clear hr0 hc0;have H:(Z30.l0 k l0 a1 a2 0)=some (r1,r2):=h;clear h;have H':=aM H;clear H;go_enter Try.func33,Try.ntmps33
 go_wp2
 go_loopg [8] k (fun kq v8 w'=>∃ (aA:Int),v8=.int .i64 aA∧Aside0 (Z30.l0 kq l0 a1 a2 aA=some (r1,r2))∧Aside0 (kq≤k)∧Drawn0 w w')
 case atStart=>exact ⟨(0),xE,H',⟨Nat.le_refl _⟩,by repeat (exact Drawn0.refl _)⟩
 case round =>
  clear H'
  repeat first|clear p2|clear c3
  obtain ⟨aA,rfl,HA,bD,⟨m1,rfl⟩⟩:=hrel;cases gk with
  | zero=>exact absurd HA.out (by simp [Z30.l0])
  | succ k1 =>
   have H:=HA.out;clear HA;simp only [Z30.l0] at H
   by_cases c4:aA<(l0.length:Int)
   case neg =>
    rw [if_neg c4] at H
    have bL:=decide_eq_false c4;clear c4;simp only [Option.some.injEq,Prod.mk.injEq] at H;obtain ⟨rfl,rfl⟩:=H;go_wp2
    go_ret2
    exact ⟨by rfl,by repeat (first|exact Drawn0.refl _|apply Drawn0.step)⟩
   rw [if_pos c4] at H
   have bL:=decide_eq_true c4;clear c4;obtain ⟨bX,H⟩:=gI H
   by_cases c6:((rd_T72 l0 aA).f0)=a1
   case neg =>
    rw [if_neg c6] at H
    have bM:(((rd_T72 l0 aA).f0) == a1)=false:=beq_eq_false_iff_ne.mpr c6;have H':=aM H;clear H;have aC:0≤(aA:Int):=dT;have aD:aA<(l0.length:Int):=dT;obtain ⟨aH,aI,aK,aN,aQ,aT⟩:=at_T72 aJ.out aA aC aD;cases aI
    replace aC:=eq_true aC;replace aD:=eq_true aD;go_wp2
    go_roundg k1
    case measure=>have:=bD.out;omega
    case rel=>exact ⟨(wS aA),xE,H',⟨by have:=bD.out;omega⟩,by repeat (first|exact Drawn0.refl _|apply Drawn0.step)⟩
   rw [if_pos c6] at H
   have bM:(((rd_T72 l0 aA).f0) == a1)=true:=beq_iff_eq.mpr c6;clear c6
   by_cases c7:((rd_T72 l0 aA).f1)=a2
   case neg =>
    rw [if_neg c7] at H
    have bO:(((rd_T72 l0 aA).f1) == a2)=false:=beq_eq_false_iff_ne.mpr c7;have H':=aM H;clear H;have aC:0≤(aA:Int):=dT;have aD:aA<(l0.length:Int):=dT;obtain ⟨aH,aI,aK,aN,aQ,aT⟩:=at_T72 aJ.out aA aC aD;cases aI
    replace aC:=eq_true aC;replace aD:=eq_true aD;have aE:0≤(aA:Int):=dT;have aG:aA<(l0.length:Int):=dT;obtain ⟨aV,aW,bG,bH,bI,bJ⟩:=at_T72 aJ.out aA aE aG;obtain rfl:aH=aV:=(by injection aW)
    replace aE:=eq_true aE;replace aG:=eq_true aG;go_wp2
    go_roundg k1
    case measure=>have:=bD.out;omega
    case rel=>exact ⟨(wS aA),xE,H',⟨by have:=bD.out;omega⟩,by repeat (first|exact Drawn0.refl _|apply Drawn0.step)⟩
   rw [if_pos c7] at H
   have bO:(((rd_T72 l0 aA).f1) == a2)=true:=beq_iff_eq.mpr c7;clear c7;simp only [Option.some.injEq,Prod.mk.injEq] at H;obtain ⟨rfl,rfl⟩:=H;have aC:0≤(aA:Int):=dT;have aD:aA<(l0.length:Int):=dT;obtain ⟨aH,aI,aK,aN,aQ,aT⟩:=at_T72 aJ.out aA aC aD;cases aI
   replace aC:=eq_true aC;replace aD:=eq_true aD;have aE:0≤(aA:Int):=dT;have aG:aA<(l0.length:Int):=dT;obtain ⟨aV,aW,bG,bH,bI,bJ⟩:=at_T72 aJ.out aA aE aG;obtain rfl:aH=aV:=(by injection aW)
   replace aE:=eq_true aE;replace aG:=eq_true aG;have aX:0≤(aA:Int):=dT;have bA:aA<(l0.length:Int):=dT;obtain ⟨bK,bQ,bT,bU,bV,bW⟩:=at_T72 aJ.out aA aX bA;obtain rfl:aH=bK:=(by injection bQ)
   replace aX:=eq_true aX;replace bA:=eq_true bA;go_wp2
   go_ret2
   exact ⟨by rfl,by repeat (first|exact Drawn0.refl _|apply Drawn0.step)⟩

end Go.Proofs.Ytjodolkdelffaaa.PFnCards
