/- A part of the proof of laws.FnIns. No condition beyond what its theorems say. -/
import Derived.Test.YtljbdchibfjbdaaDoorVFnInsPx12
namespace Go.Proofs.YtljbdchibfjbdaaDoor.PFnIns
open Go.RowKit Go.Proofs.YtljbdchibfjbdaaDoorW.PrintWords Go.Proofs.YtljbdchibfjbdaaDoorW.PrintLast Go.Proofs.YtljbdchibfjbdaaDoorW.PrintMore
set_option linter.unusedVariables false
set_option linter.unusedSimpArgs false

def Z11.l0:Nat→Int→Int→List (S102)→Option (Bool)
 | 0,_,_,_=>none
 | k+1,x3,aC,aA=>if x3<(aA.length:Int) then (if 0≤x3 then ((Z9.f k ((rd_T102 aA x3).f0) ((rd_T102 aA x3).f1) ((rd_T102 aA x3).f2.f0) ((rd_T102 aA x3).f2.f1) ((rd_T102 aA x3).f2.f2) ((rd_T102 aA x3).f2.f3) ((rd_T102 aA x3).f3) ((rd_T102 aA x3).f4) ((rd_T102 aA x3).f5) ((rd_T102 aA x3).f6) ((rd_T102 aA x3).f7)).bind fun aD=>(if aD=true then (Z11.l0 k (wrap64 (x3+1)) aC aA) else (some false))) else (none)) else ((Z2.f aC 1 9).bind fun aE=>(if aE=true then ((Z2.f (aA.length:Int) 1 4).bind fun aG=>(some aG)) else (some false)))
def Z11.f (k:Nat) (aA:Int) (aC:List (S102)):Option (Bool):=Z11.l0 k 0 aA aC
theorem Z11.mono_l:∀ k,(∀ y0 y1 y2,LeO (Z11.l0 k y0 y1 y2) (Z11.l0 (k+1) y0 y1 y2))
 | 0=>fun _ _ _ r h=>by simp [Z11.l0] at h
 | k+1=>by
  have ih0:=Z11.mono_l k
  ·intro y0 y1 y2
   unfold Z11.l0
   repeat' (with_reducible first|apply ih0|apply Z9.mono|exact lR _|refine lI ?_ ?_|refine lB ?_ fun _=>?_)
theorem Z11.mono:∀ a0 a1 k,LeO (Z11.f k a0 a1) (Z11.f (k+1) a0 a1):=by
 intro a0 a1 k;have ih0:=Z11.mono_l k;unfold Z11.f
 repeat' (with_reducible apply ih0)
set_option maxHeartbeats 60000000 in
set_option maxRecDepth 100000 in
theorem Z11.calls (k:Nat) (aG:Int) (bG:Option Addr) (bH:Nat) (aA:List (S102)) (r:Bool) (w:World) (hr0_1:Kd.C k102 w bG aA.length aA) (hc0_1:aA.length≤bH) (h:Z11.f k aG aA=some r) :
  Calls Tryd.prog 78 #[.agg #[aG,.slice bG aA.length bH]] w fun e w'=>e=.returned (.bool r)∧Below w.heap.size w w':=by
 have cH:=Tryd.underlying79;have bZ:=Tryd.underlying102;have bJ:=aM hr0_1;have cA:=aM hc0_1;clear hr0_1 hc0_1;have HB:=aM (Below.refl w.heap.size w);have H:(Z11.l0 k 0 aG aA)=some r:=h;clear h;have H':=aM H;clear H;go_enter Tryd.func78,Tryd.ntmps78
 go_wp2_with (((with_reducible refine gD (N:=1) rfl ?_);(try (refine gate_guard (by rfl) ?_;dsimp only));refine bE (N:=1) (cs:=#[aG,.slice bG aA.length bH]) (t:=79) ?_;intro bN hg w2 hbox hb;have aD:=aM (hbox);have cC:=gF hg HB;have cD:=gF hg HB;replace HB:=rS HB hb;clear hb hbox hg))
 go_loopg [3] k (fun kq v3 w'=>∃ (aC:Int),v3=.int .i64 aC∧Aside0 (Z11.l0 kq aC aG aA=some r)∧Aside0 (kq≤k)∧Aside0 (w'.heap[bN]?=some (.cells #[aG,(.slice bG aA.length bH)] 79 (0,0)))∧Aside0 (Below w.heap.size w w'))
 case atStart=>exact ⟨(0),xE,H',⟨Nat.le_refl _⟩,⟨bk aD.out⟩,⟨bl HB.out⟩⟩
 case round =>
  clear H'
  obtain ⟨aC,rfl,HA,bP,aD,HB⟩:=hrel;cases gk with
  | zero=>exact absurd HA.out (by simp [Z11.l0])
  | succ k1 =>
   have H:=HA.out;clear HA;simp only [Z11.l0] at H
   by_cases c3:aC<(aA.length:Int)
   case neg =>
    rw [if_neg c3] at H
    have bU:=decide_eq_false c3;clear c3;obtain ⟨bV,bL,H⟩:=hB H;have bQ:=aM bL;clear bL
    by_cases bK:bV=true
    case neg =>
     replace bK:=Bool.eq_false_iff.mpr bK;subst bK;replace H:=hF H;obtain rfl:=Option.some.inj H;have cE:=cA2 aD.out;go_wp2_with (((with_reducible refine gC (f:=69) rfl ?_);refine goesL_ (some 20) rfl rfl Tryd.func69 (by kernel_rfl) rfl #[aG,.int .i64 1,.int .i64 9] rfl xR ?_;(with_reducible refine (Z2.calls aG 1 9 false _ bQ.out).mono ?_);rintro e w' ⟨rfl,⟨nd,rfl⟩⟩;refine ⟨_,rfl,?_⟩))
     go_ret
     exact ⟨xW,bl HB.out⟩
    subst bK;replace H:=hP H rfl;obtain ⟨bW,bM,H⟩:=hB H;have bY:=aM bM;clear bM;obtain rfl:=Option.some.inj H;have cG:=cA2 aD.out;go_wp2_with (first|((with_reducible refine gC (f:=69) rfl ?_);refine goesL_ (some 20) rfl rfl Tryd.func69 (by kernel_rfl) rfl #[aG,.int .i64 1,.int .i64 9] rfl xR ?_;(with_reducible refine (Z2.calls aG 1 9 true _ bQ.out).mono ?_);rintro e w' ⟨rfl,⟨nd,rfl⟩⟩;refine ⟨_,rfl,?_⟩)|(go_at_call 69;(with_reducible refine (Z2.calls (aA.length:Int) 1 4 bW _ bY.out).mono ?_);rintro e w' ⟨rfl,⟨nd,rfl⟩⟩))
    go_ret
    exact ⟨xW,bl HB.out⟩
   rw [if_pos c3] at H
   have bU:=decide_eq_true c3;clear c3;obtain ⟨cK,H⟩:=gI H;obtain ⟨bX,bT,H⟩:=hB H;have A5:=aM bT;clear bT
   by_cases c6:bX=true
   case neg =>
    replace c6:=Bool.eq_false_iff.mpr c6;subst c6;replace H:=hF H;obtain rfl:=Option.some.inj H;have cL:=cA2 aD.out;have bA:0≤(aC:Int):=dT;have bD:aC<(aA.length:Int):=dT;obtain ⟨bO,bI,aH,aI,aJ,aK,aN,aQ,aT,aV,aW,aX,aE⟩:=at_T102 bJ.out aC bA bD;cases bI
    replace aH:=xB HB aH;replace aI:=xB HB aI;replace aJ:=xB HB aJ;replace aK:=xB HB aK;replace aN:=xB HB aN;replace aQ:=xB HB aQ;replace aT:=xB HB aT;replace aV:=xB HB aV;replace aW:=xB HB aW;replace aX:=xB HB aX;replace aE:=xB HB aE;replace bA:=eq_true bA;replace bD:=eq_true bD;go_wp2_with (((with_reducible refine gC (f:=89) rfl ?_);refine goesL_ (some 16) rfl rfl Tryd.func89 (by kernel_rfl) rfl #[.agg #[((rd_T102 aA aC).f0),((rd_T102 aA aC).f1),((rd_T102 aA aC).f2.f0),((rd_T102 aA aC).f2.f1),((rd_T102 aA aC).f2.f2),((rd_T102 aA aC).f2.f3),((rd_T102 aA aC).f3),((rd_T102 aA aC).f4),((rd_T102 aA aC).f5),((rd_T102 aA aC).f6),((rd_T102 aA aC).f7)]] rfl xR ?_;(with_reducible refine (Z9.calls k1 ((rd_T102 aA aC).f0) ((rd_T102 aA aC).f1) ((rd_T102 aA aC).f2.f0) ((rd_T102 aA aC).f2.f1) ((rd_T102 aA aC).f2.f2) ((rd_T102 aA aC).f2.f3) ((rd_T102 aA aC).f3) ((rd_T102 aA aC).f4) ((rd_T102 aA aC).f5) ((rd_T102 aA aC).f6) ((rd_T102 aA aC).f7) false _ A5.out).mono ?_);rintro e cO ⟨rfl,hb⟩;refine ⟨_,rfl,?_⟩;replace aD:=rB aD hb;replace HB:=rS HB hb;(try clear hb)))
    go_ret
    exact ⟨xW,bl HB.out⟩
   subst c6;replace H:=hP H rfl;have H':=aM H;clear H;have cN:=cA2 aD.out;have bA:0≤(aC:Int):=dT;have bD:aC<(aA.length:Int):=dT;obtain ⟨bO,bI,aH,aI,aJ,aK,aN,aQ,aT,aV,aW,aX,aE⟩:=at_T102 bJ.out aC bA bD;cases bI
   replace aH:=xB HB aH;replace aI:=xB HB aI;replace aJ:=xB HB aJ;replace aK:=xB HB aK;replace aN:=xB HB aN;replace aQ:=xB HB aQ;replace aT:=xB HB aT;replace aV:=xB HB aV;replace aW:=xB HB aW;replace aX:=xB HB aX;replace aE:=xB HB aE;replace bA:=eq_true bA;replace bD:=eq_true bD;go_wp2_with (((with_reducible refine gC (f:=89) rfl ?_);refine goesL_ (some 16) rfl rfl Tryd.func89 (by kernel_rfl) rfl #[.agg #[((rd_T102 aA aC).f0),((rd_T102 aA aC).f1),((rd_T102 aA aC).f2.f0),((rd_T102 aA aC).f2.f1),((rd_T102 aA aC).f2.f2),((rd_T102 aA aC).f2.f3),((rd_T102 aA aC).f3),((rd_T102 aA aC).f4),((rd_T102 aA aC).f5),((rd_T102 aA aC).f6),((rd_T102 aA aC).f7)]] rfl xR ?_;(with_reducible refine (Z9.calls k1 ((rd_T102 aA aC).f0) ((rd_T102 aA aC).f1) ((rd_T102 aA aC).f2.f0) ((rd_T102 aA aC).f2.f1) ((rd_T102 aA aC).f2.f2) ((rd_T102 aA aC).f2.f3) ((rd_T102 aA aC).f3) ((rd_T102 aA aC).f4) ((rd_T102 aA aC).f5) ((rd_T102 aA aC).f6) ((rd_T102 aA aC).f7) true _ A5.out).mono ?_);rintro e w8 ⟨rfl,hb⟩;refine ⟨_,rfl,?_⟩;replace aD:=rB aD hb;replace HB:=rS HB hb;(try clear hb)))
   go_roundg k1
   case measure=>have:=bP.out;omega
   case rel=>exact ⟨(wS aC),xE,H',⟨by have:=bP.out;omega⟩,⟨bk aD.out⟩,⟨bl HB.out⟩⟩

def Z46.f (aD:Int) (aA:List (S102)):Option (Int × (List (S102))):=(some (([]:List (S102)):List (S102))).bind fun aC=>(if aC.length+aA.length<1759218604441 then (some (aD,(aC++aA))) else (none))
def Z46.T1:Bool × List (List Nat × List Nat):=(true,[([],[]),([0],[0]),([],[]),([],[]),([3],[3]),([2,4],[2,4]),([1,5],[1,5]),([6,5,0,1,2,3,4,5,6],[6])])
def Z46.B1:List Nat:=[0,1,0,0,8,28,63,127]
theorem Z46.tab1:rtab .any (opsOf Tryd.f79 1)=Z46.T1:=by kernel_rfl
theorem Z46.bits1:waitsOk Z46.T1.2 Z46.B1=true:=by kernel_rfl
set_option maxHeartbeats 60000000 in
set_option maxRecDepth 100000 in
theorem Z46.calls (aE:Int) (aN:Option Addr) (aQ:Nat) (aD:List (S102)) (r1:Int) (r2:List (S102)) (w:World) (hr0_1:Kd.C k102 w aN aD.length aD) (hc0_1:aD.length≤aQ) (h:Z46.f aE aD=some (r1,r2)) :
  Calls Tryd.prog 79 #[.agg #[aE,.slice aN aD.length aQ]] w fun e w'=>∃ bI:Value,e=.returned (.agg #[r1,bI])∧Kd.R k102 102 w' w.heap.size (fun _=>True) bI r2∧Below w.heap.size w w':=by
 have bU:=Tryd.underlying79;have bD:=aM hr0_1;have bN:=aM hc0_1;clear hr0_1 hc0_1;have HB:=aM (Below.refl w.heap.size w);have H:((some (([]:List (S102)):List (S102))).bind fun aH=>(if aH.length+aD.length<1759218604441 then (some (aE,(aH++aD))) else (none)))=some (r1,r2):=h
 clear h;obtain ⟨aH,aW,H⟩:=hS H;have aX:=aM aW;clear aW
 by_cases c2:aH.length+aD.length<1759218604441
 case neg =>
  rw [if_neg c2] at H
  exact absurd H (by simp)
 rw [if_pos c2] at H
 have LMc2:=aM c2;clear c2;obtain ⟨aV,aG⟩:∃ y_:List (S102),y_=(aH++aD):=⟨_,rfl⟩;replace H:(some (aE,aV))=some (r1,r2):=by (rw [aG];with_reducible exact H)
 have bG:=aM aG;clear aG;simp only [Option.some.injEq,Prod.mk.injEq] at H;obtain ⟨rfl,rfl⟩:=H;go_enter Tryd.func79,Tryd.ntmps79
 try go_wp2_with (first|((with_reducible refine gD (N:=1) rfl ?_);refine bE (N:=1) (cs:=#[aE,.slice aN aD.length aQ]) (t:=79) ?_;intro bH hg w3 hbox hb;have aA:=aM (hbox);have bO:=gF hg HB;have bP:=gF hg HB;replace HB:=rS HB hb;clear hb hbox hg)|((with_reducible refine gD (N:=2) rfl ?_);refine bE (N:=2) (cs:=#[.int .i64 0,.slice none 0 0]) (t:=79) ?_;intro aT hg w4 hbox hb;have aC:=aM (hbox);have bQ:=gF hg HB;have bT:=gF hg HB;have aI:=nM hg aA;have aJ:=nH hg aA;replace aA:=rB aA hb;replace HB:=rS HB hb;clear hb hbox hg))
 replace aA:=aM (blk_drew aA.out);replace aC:=aM (blk_drew aC.out);replace HB:=aM (below_drew1 HB.out);refine start_ (n:=8) (S:=fun w'=>cS2 w' bH (.int .i64 aE) (.slice aN aD.length aQ)) (ds:=[]) (dn 8 0) (by kernel_rfl) rfl rfl ⟨cI aA.out 0,cI aA.out 1⟩ (fun hHeld=>?_);refine with_tabW Z46.tab1 Z46.bits1 (fun HT_ HW_=>?_)
 generalize w4.drew=w5 at aA aC HB hHeld ⊢
 refine nY (N:=some 3) HT_ ?_;refine pZ 3 6 (bv 8 9) HT_ ?_;refine aZ 1 4 (bv 8 11) HT_ HW_ hHeld ?_;refine aZ 4 7 (bv 8 27) HT_ HW_ hHeld ?_;refine one_ (i:=2) (N:=some 5) (bv 8 31) rfl rfl (one_of HT_.out (by kernel_rfl)) (by decide) (fun K hK=>?_)
 refine Kd.R_lit_step k102 _ 102 ?hg (N:=5) ?hd (xs:=([]:List (S102))) (inner:=[]) (ok:=fun _=>True) (okp:=fun _=>True) ?hr ?hp (fun _ hk=>hk) trivial (Below.refl _ _) (Nat.le_refl _) (by simp) ?_;(case hd=>rfl);(case hg=>rfl);(case hr=>(go_simp;done));(case hp=>exact (Reps.none _ _))
 intro bM w6 ho7 hb hg_ hnew_;clear hg_ hnew_
 (rw [← aX.out] at ho7)
 have aK:=aM (Kd.R_lower ho7 (below_size (bl HB.out)));replace aA:=rB aA hb;replace aC:=rB aC hb;replace HB:=rS HB hb;clear hb ho7;refine hK.out _ _ ⟨cI aA.out 0,cI aA.out 1⟩ (fun hHeld=>?_)
 clear hK K;refine norm_ (a':=?_) ?_ ?_;rotate_left
 ·show Act.put _ (some 5) _=_
  simp only [Act.put,sA,sZ,sS,i64_w,i32_w]
  rfl
 refine one_ (i:=5) (N:=some 8) (bv 8 63) rfl rfl (one_of HT_.out (by kernel_rfl)) (by decide) (fun K hK=>?_)
 refine Kd.R_append_rows_step k102 (w0:=w) w.heap.size (by rfl) (.tmp 5) (.tmp 7) 77 102 (.agg #[(.bool false),(.bool false),(.int .i64 0),(.int .i64 0),(.int .i64 0),(.int .i64 0),(.int .i64 0),(.int .i64 0),(.int .i64 0),(.int .i64 0),(.bool false)]) 80 rfl Tryd.underlying77 info102 rfl (by decide) (by omega) bM aH aD _ _ _ (fun _=>True) (fun _=>False) rfl rfl ?aO ?aR (fun _ _ h=>h) (fun _ h=>h.elim) ?aF ?aB ?aS ?aL ?_
 (case aR=>repeat (exact (cB bD.out HB.out)))
 (case aB=>exact (bl HB.out))
 (case aF=>exact (fun _ _=>trivial))
 (case aO=>exact (kr aK.out))
 (case aS=>exact (below_size (bl HB.out)))
 (case aL=>have:=LMc2.out;omega)
 intro bV w8 ho hb hg hat;rw [← bG.out] at ho
 have bA:=aM (ho);replace aA:=aM (blk_grown (bk aA.out) hg (Kd.R_ne aK.out aA.out (by decide)))
 replace aC:=aM (blk_grown (bk aC.out) hg (Kd.R_ne aK.out aC.out (by decide)))
 replace HB:=aM (hb);clear aK;clear ho hb hg hat;obtain ⟨bJ,bK,bL⟩:=Kd.R_slice bA.out
 (subst bL)
 refine hK.out _ _ ⟨cI aA.out 0,cI aA.out 1⟩ (fun hHeld=>?_)
 clear hK K;refine norm_ (a':=?_) ?_ ?_;rotate_left
 ·show Act.put _ (some 8) _=_
  simp only [Act.put,sA,sZ,sS,i64_w,i32_w]
  rfl
 refine pZ 6 9 (bv 8 127) HT_ ?_;refine one_ (i:=7) (N:=none) (bv 8 255) rfl rfl (one_of HT_.out (by kernel_rfl)) (by decide) (fun K hK=>?_)
 have bW:=cI aC.out 0;have hfs10:=bF aC.out 0;have hns10_0:=aI.out;have hms10_0:=aJ.out;have bX:=cI aC.out 1;have hfs11:=bF aC.out 1;have hns11_0:=aI.out;have hms11_0:=aJ.out;refine skip_ (w1:=?_) (by rfl) rfl ?_ ?_
 rotate_left
 ·go_simp
  rfl
 refine hK.out _ _ ⟨(cm (hHeld.1)),(cm (hHeld.2))⟩ (fun hHeld=>?_)
 clear hK K;refine done_ (done_of HT_.out (by kernel_rfl)) ?_
 try go_wp2
 refine bodyPost_ret (results_cell_row rfl _ _ aT 79 #[aE,.slice bJ aV.length bK] (0,0) _ rfl (bm aC.out) Tryd.underlying79 rfl (by kernel_rfl)) rfl ?_
 exact ⟨_,xW,kr (Kd.R_mono (rT2 bA.out aC.out (.int .i64 aE) (.slice bJ aV.length bK)) (fun _ hk=>trivial)),bl HB.out⟩

def Z66.f (aA aC aD aI aE aG aH aJ:Int):Option (Bool):=if aA=aE then (if aC=aG then (if aD=aH then (some (decide (aI<aJ))) else (some (decide (aD<aH)))) else (some (decide (aC<aG)))) else (some (decide (aA<aE)))
set_option maxHeartbeats 60000000 in
set_option maxRecDepth 100000 in
theorem Z66.calls (aE aG aH aQ aI aJ aK aT:Int) (r:Bool) (w:World) (h:Z66.f aE aG aH aQ aI aJ aK aT=some r) :
  Calls Tryd.prog 99 #[.agg #[aE,aG,aH,aQ],.agg #[aI,aJ,aK,aT]] w fun e w'=>e=.returned (.bool r)∧Below w.heap.size w w':=by
 have cD:=Tryd.underlying25;have HB:=aM (Below.refl w.heap.size w);have H:(if aE=aI then (if aG=aJ then (if aH=aK then (some (decide (aQ<aT))) else (some (decide (aH<aK)))) else (some (decide (aG<aJ)))) else (some (decide (aE<aI))))=some r:=h;clear h
 by_cases c3:aE=aI
 case neg =>
  rw [if_neg c3] at H
  have bH:(aE == aI)=false:=beq_eq_false_iff_ne.mpr c3;have bI:(aE != aI)=true:=bne_iff_ne.mpr c3;obtain rfl:=Option.some.inj H;go_enter Tryd.func99,Tryd.ntmps99
  go_wp2_with (first|((with_reducible refine gD (N:=2) rfl ?_);refine bE (N:=2) (cs:=#[aE,aG,aH,aQ]) (t:=25) ?_;intro aV hg cK hbox hb;have aA:=aM (hbox);have aW:=gF hg HB;have aX:=gF hg HB;replace HB:=rS HB hb;clear hb hbox hg)|((with_reducible refine gD (N:=3) rfl ?_);refine bE (N:=3) (cs:=#[aI,aJ,aK,aT]) (t:=25) ?_;intro bA hg cL hbox hb;have aN:=aM (hbox);have bD:=gF hg HB;have bG:=gF hg HB;have aC:=nM hg aA;have aD:=nH hg aA;replace aA:=rB aA hb;replace HB:=rS HB hb;clear hb hbox hg;have bN:=aC.out;have bO:=aD.out;have bP:=cA4 aA.out;have bQ:=cA4 aN.out))
  go_ret
  exact ⟨xW,bl HB.out⟩
 rw [if_pos c3] at H
 have bH:(aE == aI)=true:=beq_iff_eq.mpr c3;have bI:(aE != aI)=false:=bne_eq_false_iff_eq.mpr c3;clear c3
 by_cases c4:aG=aJ
 case neg =>
  rw [if_neg c4] at H
  have bJ:(aG == aJ)=false:=beq_eq_false_iff_ne.mpr c4;have bK:(aG != aJ)=true:=bne_iff_ne.mpr c4;obtain rfl:=Option.some.inj H;go_enter Tryd.func99,Tryd.ntmps99
  go_wp2_with (first|((with_reducible refine gD (N:=2) rfl ?_);refine bE (N:=2) (cs:=#[aE,aG,aH,aQ]) (t:=25) ?_;intro aV hg cN hbox hb;have aA:=aM (hbox);have aW:=gF hg HB;have aX:=gF hg HB;replace HB:=rS HB hb;clear hb hbox hg)|((with_reducible refine gD (N:=3) rfl ?_);refine bE (N:=3) (cs:=#[aI,aJ,aK,aT]) (t:=25) ?_;intro bA hg cO hbox hb;have aN:=aM (hbox);have bD:=gF hg HB;have bG:=gF hg HB;have aC:=nM hg aA;have aD:=nH hg aA;replace aA:=rB aA hb;replace HB:=rS HB hb;clear hb hbox hg;have bT:=aC.out;have bU:=aD.out;have bV:=cA4 aA.out;have bW:=cA4 aN.out))
  go_ret
  exact ⟨xW,bl HB.out⟩
 rw [if_pos c4] at H
 have bJ:(aG == aJ)=true:=beq_iff_eq.mpr c4;have bK:(aG != aJ)=false:=bne_eq_false_iff_eq.mpr c4;clear c4
 by_cases c5:aH=aK
 case neg =>
  rw [if_neg c5] at H
  have bL:(aH == aK)=false:=beq_eq_false_iff_ne.mpr c5;have bM:(aH != aK)=true:=bne_iff_ne.mpr c5;obtain rfl:=Option.some.inj H;go_enter Tryd.func99,Tryd.ntmps99
  go_wp2_with (first|((with_reducible refine gD (N:=2) rfl ?_);refine bE (N:=2) (cs:=#[aE,aG,aH,aQ]) (t:=25) ?_;intro aV hg cP hbox hb;have aA:=aM (hbox);have aW:=gF hg HB;have aX:=gF hg HB;replace HB:=rS HB hb;clear hb hbox hg)|((with_reducible refine gD (N:=3) rfl ?_);refine bE (N:=3) (cs:=#[aI,aJ,aK,aT]) (t:=25) ?_;intro bA hg cQ hbox hb;have aN:=aM (hbox);have bD:=gF hg HB;have bG:=gF hg HB;have aC:=nM hg aA;have aD:=nH hg aA;replace aA:=rB aA hb;replace HB:=rS HB hb;clear hb hbox hg;have bX:=aC.out;have bY:=aD.out;have bZ:=cA4 aA.out;have cA:=cA4 aN.out))
  go_ret
  exact ⟨xW,bl HB.out⟩
 rw [if_pos c5] at H
 have bL:(aH == aK)=true:=beq_iff_eq.mpr c5;have bM:(aH != aK)=false:=bne_eq_false_iff_eq.mpr c5;clear c5;obtain rfl:=Option.some.inj H;go_enter Tryd.func99,Tryd.ntmps99
 go_wp2_with (first|((with_reducible refine gD (N:=2) rfl ?_);refine bE (N:=2) (cs:=#[aE,aG,aH,aQ]) (t:=25) ?_;intro aV hg w6 hbox hb;have aA:=aM (hbox);have aW:=gF hg HB;have aX:=gF hg HB;replace HB:=rS HB hb;clear hb hbox hg)|((with_reducible refine gD (N:=3) rfl ?_);refine bE (N:=3) (cs:=#[aI,aJ,aK,aT]) (t:=25) ?_;intro bA hg w7 hbox hb;have aN:=aM (hbox);have bD:=gF hg HB;have bG:=gF hg HB;have aC:=nM hg aA;have aD:=nH hg aA;replace aA:=rB aA hb;replace HB:=rS HB hb;clear hb hbox hg;have cE:=aC.out;have cG:=aD.out;have cH:=cA4 aA.out;have cC:=cA4 aN.out))
 go_ret
 exact ⟨xW,bl HB.out⟩

end Go.Proofs.YtljbdchibfjbdaaDoor.PFnIns
