/- A part of the proof of laws.FnExactPass. No condition beyond what its theorems say. -/
import Derived.Test.YtfljolhhgheheaaVFnExactPassPx10
import Derived.Test.YtfljolhhgheheaaVFnExactPassPx11
namespace Go.Proofs.Ytfljolhhgheheaa.PFnExactPass
open Go.RowKit Go.Proofs.YtfljolhhgheheaaW.PrintWords Go.Proofs.YtfljolhhgheheaaW.PrintLast Go.Proofs.YtfljolhhgheheaaW.PrintMore
set_option linter.unusedVariables false
set_option linter.unusedSimpArgs false

def Y10.l0:Nat→List (S60)→Int→Int→List Bool→List (S60)→List (S86)→Option (List Bool × (List (S60)) × (List (S86)))
 | 0,_,_,_,_,_,_=>none
 | k+1,aG,aH,aC,aD,aA,aE=>if aC<aH then (if 0≤aC then (if aC<(aG.length:Int) then ((Y79.f ((rd_T60 aG aC).f1)).bind fun aI=>(if aA.length<4398046511104 then (Y10.l0 k aG aH (wrap64 (aC+1)) aD (aA++[(⟨(rd_T60 aG aC).f0,aI⟩:S60)]) aE) else (none))) else (none)) else (none)) else (some (aD,aA,aE))
def Y10.f (k:Nat) (aC:List Bool) (aA:List (S60)) (aD:List (S86)):Option (List Bool × (List (S60)) × (List (S86))):=(Y70.f aC).bind fun aE=>((Y50.f aD).bind fun aG=>(Y10.l0 k aA (aA.length:Int) 0 aE ([]:List (S60)) aG))
theorem Y10.mono_l:∀ k,(∀ y0 y1 y2 y3 y4 y5,LeO (Y10.l0 k y0 y1 y2 y3 y4 y5) (Y10.l0 (k+1) y0 y1 y2 y3 y4 y5))
 | 0=>fun _ _ _ _ _ _ r h=>by simp [Y10.l0] at h
 | k+1=>by
  have ih0:=Y10.mono_l k
  ·intro y0 y1 y2 y3 y4 y5
   unfold Y10.l0
   repeat' first|(with_reducible first|apply ih0|exact lR _|exact lN _|refine lI ?_ ?_|refine lB ?_ fun _=>?_)|exact lN _|refine lI ?_ ?_|refine lB ?_ fun _=>?_
theorem Y10.mono:∀ a0 a1 a2 k,LeO (Y10.f k a0 a1 a2) (Y10.f (k+1) a0 a1 a2):=by
 intro a0 a1 a2 k;have ih0:=Y10.mono_l k;unfold Y10.f
 repeat' first|(with_reducible first|apply ih0|exact lR _|exact lN _|refine lI ?_ ?_|refine lB ?_ fun _=>?_)|exact lN _|refine lI ?_ ?_|refine lB ?_ fun _=>?_
def Y10.T1:Bool × List (List Nat × List Nat):=(true,[([],[]),([0],[0]),([1],[1]),([],[]),([3],[3]),([4,2],[4]),([2,5],[2,5]),([],[]),([7,6,5,0,1,2,3,4,5,6,7],[6,7])])
def Y10.B1:List Nat:=[0,1,3,0,8,31,63,0,255]
theorem Y10.tab1:rtab .any (opsOf Try.f33 1)=Y10.T1:=by kernel_rfl
theorem Y10.bits1:waitsOk Y10.T1.2 Y10.B1=true:=by kernel_rfl
def Y10.T5:Bool × List (List Nat × List Nat):=(true,[([],[]),([0],[0]),([],[]),([2],[2]),([],[]),([4],[4]),([5],[5]),([3,6],[3,6]),([7],[7]),([1,8,6],[1,8]),([0,1,2,3,4,5,6,7,8,9],[]),([10,9,9,0,1,2,3,4,5,6,7,8,9],[9,10])])
def Y10.B5:List Nat:=[0,1,0,4,0,16,48,124,252,511,1023,2047]
theorem Y10.tab5:rtab .any (opsOf Try.f33 5)=Y10.T5:=by kernel_rfl
theorem Y10.bits5:waitsOk Y10.T5.2 Y10.B5=true:=by kernel_rfl
set_option maxHeartbeats 60000000 in
set_option maxRecDepth 100000 in
theorem Y10.calls (k:Nat) (bP:Option Addr) (bQ:Nat) (bL:List Bool) (cA:Option Addr) (bZ:Nat) (aG:List (S60)) (bN:Option Addr) (bO:Nat) (bI:List (S86)) (r1:List Bool) (r2:List (S60)) (r3:List (S86)) (w:World) (hr0_0:Kd.C Kd.bool w bP bL.length bL) (hc0_0:bL.length≤bQ) (hr0_1:Kd.C k60 w cA aG.length aG) (hc0_1:aG.length≤bZ) (hr0_2:Kd.C k86 w bN bI.length bI) (hc0_2:bI.length≤bO) (h:Y10.f k bL aG bI=some (r1,r2,r3)) :
  Calls Try.prog 33 #[.agg #[.slice bP bL.length bQ,.slice cA aG.length bZ,.slice bN bI.length bO]] w fun e w'=>∃ eH eI eJ:Value,e=.returned (.agg #[eH,eI,eJ])∧Kd.R Kd.bool 4 w' w.heap.size (fun _=>True) eH r1∧Kd.S k60 60 w' w.heap.size (fun _=>True) eI r2∧Kd.R k86 86 w' w.heap.size (fun _=>True) eJ r3∧Below w.heap.size w w':=by
 have gB:=Try.underlying35;have gG:=Try.underlying60;have dP:=aM hr0_0;have dQ:=aM hc0_0;clear hr0_0 hc0_0;have eD:=aM hr0_1;have eV:=aM hc0_1;clear hr0_1 hc0_1;have cY:=aM hr0_2;have dA:=aM hc0_2;clear hr0_2 hc0_2;have HB:=aM (Below.refl w.heap.size w);have H:((Y70.f bL).bind fun bG=>((Y50.f bI).bind fun aV=>(Y10.l0 k aG (aG.length:Int) 0 bG ([]:List (S60)) aV)))=some (r1,r2,r3):=h
 clear h;obtain ⟨bG,eK,H⟩:=hB H;have A2:=aM eK;clear eK;obtain ⟨aV,eL,H⟩:=hB H;have A3:=aM eL;clear eL;have H':=aM H;clear H;go_enter Try.func33,Try.ntmps33
 try go_wp2_with (first|((with_reducible refine gD (N:=1) rfl ?_);refine bE (N:=1) (cs:=#[.slice bP bL.length bQ,.slice cA aG.length bZ,.slice bN bI.length bO]) (t:=35) ?_;intro bJ hg w4 hbox hb;have aA:=aM (hbox);have eW:=gF hg HB;have eX:=gF hg HB;replace HB:=rS HB hb;clear hb hbox hg)|((with_reducible refine gD (N:=2) rfl ?_);refine bE (N:=2) (cs:=#[.slice none 0 0,.slice none 0 0,.slice none 0 0]) (t:=35) ?_;intro bH hg w5 hbox hb;have aD:=aM (hbox);have eY:=gF hg HB;have eZ:=gF hg HB;have cN:=nM hg aA;have cO:=nH hg aA;replace aA:=rB aA hb;replace HB:=rS HB hb;clear hb hbox hg))
 replace aA:=aM (blk_drew aA.out);replace aD:=aM (blk_drew aD.out);replace HB:=aM (below_drew1 HB.out);refine start_ (n:=9) (S:=fun w'=>cS3 w' bJ (.slice bP bL.length bQ) (.slice cA aG.length bZ) (.slice bN bI.length bO)) (ds:=[]) (dn 9 0) (by kernel_rfl) rfl rfl ⟨cI aA.out 0,cI aA.out 1,cI aA.out 2⟩ (fun hHeld=>?_);refine with_tabW Y10.tab1 Y10.bits1 (fun HT_ HW_=>?_)
 generalize w5.drew=w6 at aA aD HB hHeld ⊢
 refine nY (N:=some 6) HT_ ?_;refine pZ 3 9 (bv 9 9) HT_ ?_;refine aZ 1 7 (bv 9 11) HT_ HW_ hHeld ?_;refine aZ 4 10 (bv 9 27) HT_ HW_ hHeld ?_;refine join_ (σ:=Value × Value × Nat) 1 (bv 9 255) (fun s_=>[(8,s_.1),(11,s_.2.1),(3,.pointer (some ⟨s_.2.2,0,none⟩)),(12,.agg #[s_.1,.slice none 0 0,s_.2.1])]) (fun s_ w'=>(w'.cell? ⟨bJ,0,none⟩=some (.slice bP bL.length bQ)∧w'.cell? ⟨bJ,1,none⟩=some (.slice cA aG.length bZ)∧w'.cell? ⟨bJ,2,none⟩=some (.slice bN bI.length bO))∧(Kd.R Kd.bool 4 w' w.heap.size (fun _=>True) s_.1 bG)∧(Kd.R k86 86 w' w.heap.size (fun _=>True) s_.2.1 aV)∧(w'.heap[bJ]?=some (.cells #[.slice bP bL.length bQ,.slice cA aG.length bZ,.slice bN bI.length bO] 35 (0,0)))∧(w'.heap[bH]?=some (.cells #[.slice none 0 0,.slice none 0 0,.slice none 0 0] 35 (0,0)))∧(w'.heap[s_.2.2]?=some (.cells #[.slice none 0 0,.slice none 0 0,.slice none 0 0] 35 (0,0)))∧(w.heap.size≤s_.2.2)∧(w.heap.size≤s_.2.2)∧(bJ≠s_.2.2)∧(s_.2.2≠bJ)∧(bH≠s_.2.2)∧(s_.2.2≠bH)∧(Below w.heap.size w w')) ?_ ?_
 rotate_left
 ·intro hCont
  refine two_ (i:=2) (j:=7) (Ni:=some 8) (Nj:=some 3) (bv 9 31) (bv 9 155) rfl rfl rfl rfl (two_of HT_.out (by kernel_rfl)) (by decide) (by decide) (fun K hK=>?_) (fun K hK=>?_)
  ·skip
   refine goes_ Try.func62 (by kernel_rfl) rfl #[.slice bP bL.length bQ] (by rfl) rfl rfl xR ?_
   with_reducible refine (Y70.calls _ _ bL bG _ ?side1 ?side2 A2.out).mono ?_
   (case side1=>exact cM (cB dP.out HB.out))
   (case side2=>exact dQ.out)
   rintro e w7 ⟨dK,rfl,ho0,hb⟩;refine ⟨_,rfl,?_⟩;have bD:=aM (Kd.R_lower ho0 (below_size (bl HB.out)));replace aA:=rB aA hb;replace aD:=rB aD hb;replace HB:=rS HB hb
   (try clear hb)
   (try clear hb2)
   (try clear hk)
   (try clear hi)
   (try clear ho0)
   refine hK.out _ _ ⟨cI aA.out 0,cI aA.out 1,cI aA.out 2⟩ (fun hHeld=>?_)
   clear hK K;refine norm_ (a':=?_) ?_ ?_;rotate_left
   ·show Act.put _ (some 8) _=_
    simp only [Act.put,sA,sZ,sS,i64_w,i32_w]
    rfl
   refine two_ (i:=5) (j:=7) (Ni:=some 11) (Nj:=some 3) (bv 9 63) (bv 9 159) rfl rfl rfl rfl (two_of HT_.out (by kernel_rfl)) (by decide) (by decide) (fun K hK=>?_) (fun K hK=>?_)
   ·skip
    refine goes_ Try.func63 (by kernel_rfl) rfl #[.slice bN bI.length bO] (by rfl) rfl rfl xR ?_
    with_reducible refine (Y50.calls _ _ bI aV _ ?side1 ?side2 A3.out).mono ?_
    (case side1=>exact cM (cB cY.out HB.out))
    (case side2=>exact dA.out)
    rintro e w8 ⟨dB,rfl,ho0,hb⟩;refine ⟨_,rfl,?_⟩;have bM:=aM (Kd.R_lower ho0 (below_size (bl HB.out)));replace bD:=rK bD hb;replace aA:=rB aA hb;replace aD:=rB aD hb;replace HB:=rS HB hb
    (try clear hb)
    (try clear hb2)
    (try clear hk)
    (try clear hi)
    (try clear ho0)
    obtain ⟨eQ,eR,eM⟩:=Kd.R_slice bM.out
    (first|subst eM|(injection eM with f1_ f2_ f3_;have f4_:=f1_.symm;have f5_:=f3_.symm;clear f1_ f2_ f3_;subst f4_;subst f5_))
    obtain ⟨cS,cT,cC⟩:=Kd.R_slice bD.out
    (first|subst cC|(injection cC with f1_ f2_ f3_;have f4_:=f1_.symm;have f5_:=f3_.symm;clear f1_ f2_ f3_;subst f4_;subst f5_))
    refine hK.out _ _ ⟨cI aA.out 0,cI aA.out 1,cI aA.out 2⟩ (fun hHeld=>?_)
    clear hK K;refine norm_ (a':=?_) ?_ ?_;rotate_left
    ·show Act.put _ (some 11) _=_
     simp only [Act.put,sA,sZ,sS,i64_w,i32_w]
     rfl
    refine pZ 6 12 (bv 9 127) HT_ ?_;refine one_ (i:=7) (N:=some 3) (bv 9 255) rfl rfl (one_of HT_.out (by kernel_rfl)) (by decide) (fun K hK=>?_)
    refine box_step ?hg (N:=3) ?hd (cs:=#[.slice none 0 0,.slice none 0 0,.slice none 0 0]) (t:=35) ?hr ?_;(case hd=>rfl);(case hg=>rfl);(case hr=>first|(go_simp;done)|(go_simp;rfl))
    intro aK hg gP hbox hb;have aC:=aM (hbox);have cD:=gF hg HB;have cE:=gF hg HB;have aQ:=nM hg aA;have aT:=nH hg aA;have aW:=nM hg aD;have aX:=nH hg aD;replace bD:=rK bD hb;replace bM:=rK bM hb;replace aA:=rB aA hb;replace aD:=rB aD hb;replace HB:=rS HB hb;clear hb hbox hg;refine hK.out _ _ ⟨cI aA.out 0,cI aA.out 1,cI aA.out 2⟩ (fun hHeld=>?_)
    clear hK K;refine norm_ (a':=?_) ?_ ?_;rotate_left
    ·show Act.put _ (some 3) _=_
     simp only [Act.put,sA,sZ,sS,i64_w,i32_w]
     rfl
    exact norm_ (by simp only [putAll,Act.put,sA,sZ,sS]) (hCont (.slice cS bG.length cT,.slice eQ aV.length eR,aK) _ ⟨hHeld,(kr bD.out),(kr bM.out),(bk aA.out),(bk aD.out),(bk aC.out),cD.out,cE.out,aQ.out,aT.out,aW.out,aX.out,(bl HB.out)⟩)
   ·skip
    refine box_step ?hg (N:=3) ?hd (cs:=#[.slice none 0 0,.slice none 0 0,.slice none 0 0]) (t:=35) ?hr ?_;(case hd=>rfl);(case hg=>rfl);(case hr=>first|(go_simp;done)|(go_simp;rfl))
    intro aK hg w8 hbox hb;have aC:=aM (hbox);have cD:=gF hg HB;have cE:=gF hg HB;have aQ:=nM hg aA;have aT:=nH hg aA;have aW:=nM hg aD;have aX:=nH hg aD;replace bD:=rK bD hb;replace aA:=rB aA hb;replace aD:=rB aD hb;replace HB:=rS HB hb;clear hb hbox hg;refine hK.out _ _ ⟨cI aA.out 0,cI aA.out 1,cI aA.out 2⟩ (fun hHeld=>?_)
    clear hK K;refine norm_ (a':=?_) ?_ ?_;rotate_left
    ·show Act.put _ (some 3) _=_
     simp only [Act.put,sA,sZ,sS,i64_w,i32_w]
     rfl
    refine one_ (i:=5) (N:=some 11) (bv 9 191) rfl rfl (one_of HT_.out (by kernel_rfl)) (by decide) (fun K hK=>?_)
    refine goes_ Try.func63 (by kernel_rfl) rfl #[.slice bN bI.length bO] (by rfl) rfl rfl xR ?_
    with_reducible refine (Y50.calls _ _ bI aV _ ?side1 ?side2 A3.out).mono ?_
    (case side1=>exact cM (cB cY.out HB.out))
    (case side2=>exact dA.out)
    rintro e w9 ⟨dB,rfl,ho0,hb⟩;refine ⟨_,rfl,?_⟩;have bM:=aM (Kd.R_lower ho0 (below_size (bl HB.out)));replace bD:=rK bD hb;replace aA:=rB aA hb;replace aD:=rB aD hb;replace aC:=rB aC hb;replace HB:=rS HB hb
    (try clear hb)
    (try clear hb2)
    (try clear hk)
    (try clear hi)
    (try clear ho0)
    obtain ⟨cS,cT,cC⟩:=Kd.R_slice bM.out
    (first|subst cC|(injection cC with f1_ f2_ f3_;have f4_:=f1_.symm;have f5_:=f3_.symm;clear f1_ f2_ f3_;subst f4_;subst f5_))
    obtain ⟨dL,dM,cU⟩:=Kd.R_slice bD.out
    (first|subst cU|(injection cU with f1_ f2_ f3_;have f4_:=f1_.symm;have f5_:=f3_.symm;clear f1_ f2_ f3_;subst f4_;subst f5_))
    refine hK.out _ _ ⟨cI aA.out 0,cI aA.out 1,cI aA.out 2⟩ (fun hHeld=>?_)
    clear hK K;refine norm_ (a':=?_) ?_ ?_;rotate_left
    ·show Act.put _ (some 11) _=_
     simp only [Act.put,sA,sZ,sS,i64_w,i32_w]
     rfl
    refine pZ 6 12 (bv 9 255) HT_ ?_;exact norm_ (by simp only [putAll,Act.put,sA,sZ,sS]) (hCont (.slice dL bG.length dM,.slice cS aV.length cT,aK) _ ⟨hHeld,(kr bD.out),(kr bM.out),(bk aA.out),(bk aD.out),(bk aC.out),cD.out,cE.out,aQ.out,aT.out,aW.out,aX.out,(bl HB.out)⟩)
  ·skip
   refine box_step ?hg (N:=3) ?hd (cs:=#[.slice none 0 0,.slice none 0 0,.slice none 0 0]) (t:=35) ?hr ?_;(case hd=>rfl);(case hg=>rfl);(case hr=>first|(go_simp;done)|(go_simp;rfl))
   intro aK hg w7 hbox hb;have aC:=aM (hbox);have cD:=gF hg HB;have cE:=gF hg HB;have aQ:=nM hg aA;have aT:=nH hg aA;have aW:=nM hg aD;have aX:=nH hg aD;replace aA:=rB aA hb;replace aD:=rB aD hb;replace HB:=rS HB hb;clear hb hbox hg;refine hK.out _ _ ⟨cI aA.out 0,cI aA.out 1,cI aA.out 2⟩ (fun hHeld=>?_)
   clear hK K;refine norm_ (a':=?_) ?_ ?_;rotate_left
   ·show Act.put _ (some 3) _=_
    simp only [Act.put,sA,sZ,sS,i64_w,i32_w]
    rfl
   refine one_ (i:=2) (N:=some 8) (bv 9 159) rfl rfl (one_of HT_.out (by kernel_rfl)) (by decide) (fun K hK=>?_)
   refine goes_ Try.func62 (by kernel_rfl) rfl #[.slice bP bL.length bQ] (by rfl) rfl rfl xR ?_
   with_reducible refine (Y70.calls _ _ bL bG _ ?side1 ?side2 A2.out).mono ?_
   (case side1=>exact cM (cB dP.out HB.out))
   (case side2=>exact dQ.out)
   rintro e w8 ⟨dK,rfl,ho0,hb⟩;refine ⟨_,rfl,?_⟩;have bD:=aM (Kd.R_lower ho0 (below_size (bl HB.out)));replace aA:=rB aA hb;replace aD:=rB aD hb;replace aC:=rB aC hb;replace HB:=rS HB hb
   (try clear hb)
   (try clear hb2)
   (try clear hk)
   (try clear hi)
   (try clear ho0)
   refine hK.out _ _ ⟨cI aA.out 0,cI aA.out 1,cI aA.out 2⟩ (fun hHeld=>?_)
   clear hK K;refine norm_ (a':=?_) ?_ ?_;rotate_left
   ·show Act.put _ (some 8) _=_
    simp only [Act.put,sA,sZ,sS,i64_w,i32_w]
    rfl
   refine one_ (i:=5) (N:=some 11) (bv 9 191) rfl rfl (one_of HT_.out (by kernel_rfl)) (by decide) (fun K hK=>?_)
   refine goes_ Try.func63 (by kernel_rfl) rfl #[.slice bN bI.length bO] (by rfl) rfl rfl xR ?_
   with_reducible refine (Y50.calls _ _ bI aV _ ?side1 ?side2 A3.out).mono ?_
   (case side1=>exact cM (cB cY.out HB.out))
   (case side2=>exact dA.out)
   rintro e w9 ⟨dB,rfl,ho0,hb⟩;refine ⟨_,rfl,?_⟩;have bM:=aM (Kd.R_lower ho0 (below_size (bl HB.out)));replace bD:=rK bD hb;replace aA:=rB aA hb;replace aD:=rB aD hb;replace aC:=rB aC hb;replace HB:=rS HB hb
   (try clear hb)
   (try clear hb2)
   (try clear hk)
   (try clear hi)
   (try clear ho0)
   obtain ⟨cS,cT,cC⟩:=Kd.R_slice bM.out
   (first|subst cC|(injection cC with f1_ f2_ f3_;have f4_:=f1_.symm;have f5_:=f3_.symm;clear f1_ f2_ f3_;subst f4_;subst f5_))
   obtain ⟨dL,dM,cU⟩:=Kd.R_slice bD.out
   (first|subst cU|(injection cU with f1_ f2_ f3_;have f4_:=f1_.symm;have f5_:=f3_.symm;clear f1_ f2_ f3_;subst f4_;subst f5_))
   refine hK.out _ _ ⟨cI aA.out 0,cI aA.out 1,cI aA.out 2⟩ (fun hHeld=>?_)
   clear hK K;refine norm_ (a':=?_) ?_ ?_;rotate_left
   ·show Act.put _ (some 11) _=_
    simp only [Act.put,sA,sZ,sS,i64_w,i32_w]
    rfl
   refine pZ 6 12 (bv 9 255) HT_ ?_;exact norm_ (by simp only [putAll,Act.put,sA,sZ,sS]) (hCont (.slice dL bG.length dM,.slice cS aV.length cT,aK) _ ⟨hHeld,(kr bD.out),(kr bM.out),(bk aA.out),(bk aD.out),(bk aC.out),cD.out,cE.out,aQ.out,aT.out,aW.out,aX.out,(bl HB.out)⟩)
 rintro ⟨dK,dB,aK⟩ cG ⟨hS_,h0_,h1_,h2_,h3_,h4_,h5_,h6_,h7_,h8_,h9_,h10_,h11_⟩;have bD:Aside0 (Kd.R Kd.bool 4 cG w.heap.size (fun _=>True) dK bG):=⟨h0_⟩
 have bM:Aside0 (Kd.R k86 86 cG w.heap.size (fun _=>True) dB aV):=⟨h1_⟩
 have aC:Aside0 (cG.heap[aK]?=some (.cells #[.slice none 0 0,.slice none 0 0,.slice none 0 0] 35 (0,0))):=⟨h4_⟩;have cD:Aside0 (w.heap.size≤aK):=⟨h5_⟩;have cE:Aside0 (w.heap.size≤aK):=⟨h6_⟩;have aQ:Aside0 (bJ≠aK):=⟨h7_⟩;have aT:Aside0 (aK≠bJ):=⟨h8_⟩;have aW:Aside0 (bH≠aK):=⟨h9_⟩;have aX:Aside0 (aK≠bH):=⟨h10_⟩;replace aA:Aside0 (cG.heap[bJ]?=some (.cells #[.slice bP bL.length bQ,.slice cA aG.length bZ,.slice bN bI.length bO] 35 (0,0))):=⟨h2_⟩;replace aD:Aside0 (cG.heap[bH]?=some (.cells #[.slice none 0 0,.slice none 0 0,.slice none 0 0] 35 (0,0))):=⟨h3_⟩;replace HB:Aside0 (Below w.heap.size w cG):=⟨h11_⟩;clear h0_ h1_ h2_ h3_ h4_ h5_ h6_ h7_ h8_ h9_ h10_ h11_;have hHeld:cG.cell? ⟨bJ,0,none⟩=some (.slice bP bL.length bQ)∧cG.cell? ⟨bJ,1,none⟩=some (.slice cA aG.length bZ)∧cG.cell? ⟨bJ,2,none⟩=some (.slice bN bI.length bO):=hS_;obtain ⟨bT,bU,dW⟩:=Kd.R_slice bM.out
 (first|subst dW|(injection dW with f1_ f2_ f3_;have f4_:=f1_.symm;have f5_:=f3_.symm;clear f1_ f2_ f3_;subst f4_;subst f5_))
 obtain ⟨bV,bW,dX⟩:=Kd.R_slice bD.out
 (first|subst dX|(injection dX with f1_ f2_ f3_;have f4_:=f1_.symm;have f5_:=f3_.symm;clear f1_ f2_ f3_;subst f4_;subst f5_))
 refine norm_ (a':=?_) ?_ ?_;rotate_left
 ·simp only [putAll,Act.put,sA,sZ,sS]
  rfl
 refine one_ (i:=8) (N:=none) (bv 9 511) rfl rfl (one_of HT_.out (by kernel_rfl)) (by decide) (fun K hK=>?_)
 have gH:=cI aC.out 0;have hfs15:=bF aC.out 0;have hns15_0:=aQ.out;have hns15_1:=aW.out;have hms15_0:=aT.out;have hms15_1:=aX.out;have gJ:=cI aC.out 1;have hfs16:=bF aC.out 1;have hns16_0:=aQ.out;have hns16_1:=aW.out;have hms16_0:=aT.out;have hms16_1:=aX.out;have gK:=cI aC.out 2;have hfs17:=bF aC.out 2;have hns17_0:=aQ.out;have hns17_1:=aW.out;have hms17_0:=aT.out;have hms17_1:=aX.out;refine skip_ (w1:=?_) (by rfl) rfl ?_ ?_
 rotate_left
 ·go_simp
  rfl
 refine hK.out _ _ ⟨(cm (hHeld.1)),(cm (hHeld.2.1)),(cm (hHeld.2.2))⟩ (fun hHeld=>?_)
 clear hK K;refine done_ (done_of HT_.out (by kernel_rfl)) ?_
 have fA:=cN.out;have fB:=cO.out;have fC:=aQ.out;have fD:=aT.out;have fE:=cA3 aA.out
 try go_wp2
 go_loopg [16] k (fun kq eS w'=>∃ (aJ:Int) (bA:List (S60)) (u380001:Value),eS=.int .i64 aJ∧Aside0 (Y10.l0 kq aG (aG.length:Int) aJ bG bA aV=some (r1,r2,r3))∧Aside0 (kq≤k)∧Aside0 (Kd.R Kd.bool 4 w' w.heap.size (fun _=>True) (.slice bV bG.length bW) bG)∧Aside0 (Kd.S k60 60 w' w.heap.size (fun _=>True) u380001 bA)∧Aside0 (Kd.R k86 86 w' w.heap.size (fun _=>True) (.slice bT aV.length bU) aV)∧Aside0 (w'.heap[bJ]?=some (.cells #[(.slice bP bL.length bQ),(.slice cA aG.length bZ),(.slice bN bI.length bO)] 35 (0,0)))∧Aside0 (w'.heap[bH]?=some (.cells #[(.slice none 0 0),(.slice none 0 0),(.slice none 0 0)] 35 (0,0)))∧Aside0 (w'.heap[aK]?=some (.cells #[(.slice bV bG.length bW),u380001,(.slice bT aV.length bU)] 35 (0,0)))∧Aside0 (Below w.heap.size w w'))
 case atStart=>exact ⟨(0),(([]:List (S60))),(.slice none 0 0),xE,H',⟨Nat.le_refl _⟩,⟨kr (Kd.R_mono (kF (p:=⟨aK,2,none⟩) (kF (p:=⟨aK,1,none⟩) (kF (p:=⟨aK,0,none⟩) (Kd.R_types bD.out aC.out (by decide)) (fun _ hk=>hk.2) (.slice bV bG.length bW)) (fun _ hk=>hk.2) (.slice none 0 0)) (fun _ hk=>hk.2) (.slice bT aV.length bU)) (fun _ hk=>trivial))⟩,⟨by first|exact Kd.S_nil _ _ _ _ _|exact Kd.N_nil _ _ _ _ _|exact Kd.V_nil _ _ _ _ _|exact Kd.Q_nil _ _ _ _ _|exact Kd.R_nil _ _ _ _ _⟩,⟨kr (Kd.R_mono (kF (p:=⟨aK,2,none⟩) (kF (p:=⟨aK,1,none⟩) (kF (p:=⟨aK,0,none⟩) (Kd.R_types bM.out aC.out (by decide)) (fun _ hk=>hk.2) (.slice bV bG.length bW)) (fun _ hk=>hk.2) (.slice none 0 0)) (fun _ hk=>hk.2) (.slice bT aV.length bU)) (fun _ hk=>trivial))⟩,⟨fm aA.out⟩,⟨fm aD.out⟩,⟨bm aC.out⟩,⟨bl HB.out⟩⟩
 case round =>
  clear H'
  repeat first|clear c1|clear p2|clear c3|clear c6|clear gQ|clear gR
  obtain ⟨aJ,bA,u380001,rfl,HA,eN,aH,aE,aI,aA,aD,aC,HB⟩:=hrel;cases gk with
  | zero=>exact absurd HA.out (by simp [Y10.l0])
  | succ k1 =>
   have H:=HA.out;clear HA;simp only [Y10.l0] at H
   by_cases cV:aJ<(aG.length:Int)
   case neg =>
    rw [if_neg cV] at H
    have eE:=decide_eq_false cV;clear cV;simp only [Option.some.injEq,Prod.mk.injEq] at H;obtain ⟨rfl,rfl,rfl⟩:=H;have fF:=aT.out;have fG:=aQ.out;have fH:=aX.out;have fI:=aW.out;have fK:=cA3 aC.out;have fL:=cO.out;have fM:=cN.out;have fN:=cA3 aD.out;obtain ⟨dC,dD,eO⟩:=Kd.S_slice aE.out;subst eO;go_wp2
    refine bodyPost_ret (results_cell_row rfl _ _ bH 35 #[.slice bV bG.length bW,.slice dC bA.length dD,.slice bT aV.length bU] (0,0) _ rfl (bm aD.out) Try.underlying35 rfl (by kernel_rfl)) rfl ?_
    exact ⟨_,_,_,xW,by (with_reducible repeat (first|apply Kd.R_alloc|apply Kd.R_drewN|apply Kd.R_drew));exact Kd.R_mono (kF (p:=⟨bH,2,none⟩) (kF (p:=⟨bH,1,none⟩) (kF (p:=⟨bH,0,none⟩) (Kd.R_types aH.out aD.out (by decide)) (fun _ hk=>hk.2) (.slice bV bG.length bW)) (fun _ hk=>hk.2) (.slice dC bA.length dD)) (fun _ hk=>hk.2) (.slice bT aV.length bU)) (fun _ hk=>trivial),ks (Kd.S_mono (Kd.S_far (p:=⟨bH,2,none⟩) (Kd.S_far (p:=⟨bH,1,none⟩) (Kd.S_far (p:=⟨bH,0,none⟩) (Kd.S_types aE.out aD.out (by decide)) (fun _ hk=>hk.2) (.slice bV bG.length bW)) (fun _ hk=>hk.2) (.slice dC bA.length dD)) (fun _ hk=>hk.2) (.slice bT aV.length bU)) (fun _ hk=>trivial)),by (with_reducible repeat (first|apply Kd.R_alloc|apply Kd.R_drewN|apply Kd.R_drew));exact Kd.R_mono (kF (p:=⟨bH,2,none⟩) (kF (p:=⟨bH,1,none⟩) (kF (p:=⟨bH,0,none⟩) (Kd.R_types aI.out aD.out (by decide)) (fun _ hk=>hk.2) (.slice bV bG.length bW)) (fun _ hk=>hk.2) (.slice dC bA.length dD)) (fun _ hk=>hk.2) (.slice bT aV.length bU)) (fun _ hk=>trivial),bl HB.out⟩
   rw [if_pos cV] at H
   have eE:=decide_eq_true cV;clear cV;obtain ⟨fO,H⟩:=gI H;obtain ⟨fP,H⟩:=gI H;obtain ⟨cK,dY,H⟩:=hB H;have eT:=aM dY;clear dY
   by_cases dR:bA.length<4398046511104
   case neg =>
    rw [if_neg dR] at H
    exact absurd H (by simp)
   rw [if_pos dR] at H
   have LMc25:=aM dR;clear dR;obtain ⟨cL,cH⟩:∃ y_:List (S60),y_=(bA++[(⟨(rd_T60 aG aJ).f0,cK⟩:S60)]):=⟨_,rfl⟩;replace H:(Y10.l0 k1 aG (aG.length:Int) (wS aJ) bG cL aV)=some (r1,r2,r3):=by first|(rw [cH];with_reducible exact H)|(have H2_:=(Option.bind_some _ _).symm.trans H;rw [cH];with_reducible exact H2_)|(have H2_:=(Option.bind_some _ _).symm.trans H;with_reducible exact H2_)|with_reducible exact H|(rw [cH];exact H)|exact H
   have eF:=aM cH;clear cH;have H':=aM H;clear H;have dN:0≤(aJ:Int):=dT;have dO:aJ<(aG.length:Int):=dT;obtain ⟨eG,bX,bY,eP,cW,cX,hl380_1,hi380_1⟩:=at_T60 eD.out aJ dN dO;cases eP
   replace cW:=xB HB cW;replace cX:=xB HB cX;have dU:=aM hi380_1;have dV:=aM hl380_1;clear hi380_1 hl380_1;replace dN:=eq_true dN;replace dO:=eq_true dO
   try go_wp2_with (first|((with_reducible refine gD (N:=5) rfl ?_);refine box_event ?hg (N:=5) ?hd (cs:=#[.int .i64 0,.slice none 0 0]) (t:=60) ?hr ?_;(case hd=>rfl);(case hg=>rfl);(case hr=>first|(go_simp;done)|(go_simp;rfl)|(obtain ⟨A_,c_,e_⟩:=Kd.R_slice aH.out;subst e_;(first|(go_simp;done)|(go_simp;rfl)))|(obtain ⟨A_,c_,e_⟩:=Kd.S_slice aH.out;subst e_;(first|(go_simp;done)|(go_simp;rfl)))|(obtain ⟨A_,c_,e_⟩:=Kd.R_slice aE.out;subst e_;(first|(go_simp;done)|(go_simp;rfl)))|(obtain ⟨A_,c_,e_⟩:=Kd.S_slice aE.out;subst e_;(first|(go_simp;done)|(go_simp;rfl)))|(obtain ⟨A_,c_,e_⟩:=Kd.R_slice aI.out;subst e_;(first|(go_simp;done)|(go_simp;rfl)))|(obtain ⟨A_,c_,e_⟩:=Kd.S_slice aI.out;subst e_;(first|(go_simp;done)|(go_simp;rfl))));intro bK hg gS hbox hb;have aN:=aM (hbox);have fQ:=gF hg HB;have fS:=gF hg HB;have dG:=nM hg aA;have dH:=nH hg aA;have dI:=nM hg aD;have dJ:=nH hg aD;have cP:=nM hg aC;have cQ:=nH hg aC;replace aH:=rK aH hb;replace aE:=aM (Kd.S_below (Kd.S_elderB (ks aE.out) bK (Nat.le_of_eq hg.symm)) hb);replace aI:=rK aI hb;replace aA:=rB aA hb;replace aD:=rB aD hb;replace aC:=rB aC hb;replace HB:=rS HB hb;clear hb hbox hg;have fT:=dH.out;have fU:=dG.out;have fV:=dJ.out;have fW:=dI.out;have fX:=cQ.out;have fY:=cP.out;have gA:=cA2 aN.out))
   refine nW (fun W=>Aside0 (Kd.R Kd.bool 4 W w.heap.size (fun _=>True) (.slice bV bG.length bW) bG)∧Aside0 (Kd.S k60 60 W w.heap.size (fun k_=>k_≠bK) u380001 bA)∧Aside0 (Kd.R k86 86 W w.heap.size (fun _=>True) (.slice bT aV.length bU) aV)∧Aside0 (W.heap[bJ]?=some (.cells #[.slice bP bL.length bQ,.slice (some eG) aG.length bZ,.slice bN bI.length bO] 35 (0,0)))∧Aside0 (W.heap[bH]?=some (.cells #[.slice none 0 0,.slice none 0 0,.slice none 0 0] 35 (0,0)))∧Aside0 (W.heap[aK]?=some (.cells #[.slice bV bG.length bW,u380001,.slice bT aV.length bU] 35 (0,0)))∧Aside0 (W.heap[bK]?=some (.cells #[((rd_T60 aG aJ).f0),.slice bX ((rd_T60 aG aJ).f1).length bY] 60 (0,0)))∧Aside0 (Below w.heap.size w W)) ⟨⟨kr (Kd.R_mono (kF (p:=⟨bK,1,none⟩) (kF (p:=⟨bK,0,none⟩) (Kd.R_types aH.out aN.out (by decide)) (fun _ hk=>hk.2) (.int .i64 ((rd_T60 aG aJ).f0))) (fun _ hk=>hk.2) (.slice bX ((rd_T60 aG aJ).f1).length bY)) (fun _ hk=>trivial))⟩,⟨ks (Kd.S_mono (Kd.S_far (p:=⟨bK,1,none⟩) (Kd.S_far (p:=⟨bK,0,none⟩) (Kd.S_mono aE.out (fun k_ hk=>(⟨hk,hk.2⟩:_∧k_≠bK))) (fun _ hk=>hk.2) (.int .i64 ((rd_T60 aG aJ).f0))) (fun _ hk=>hk.2) (.slice bX ((rd_T60 aG aJ).f1).length bY)) (fun _ hk=>hk.1.2))⟩,⟨kr (Kd.R_mono (kF (p:=⟨bK,1,none⟩) (kF (p:=⟨bK,0,none⟩) (Kd.R_types aI.out aN.out (by decide)) (fun _ hk=>hk.2) (.int .i64 ((rd_T60 aG aJ).f0))) (fun _ hk=>hk.2) (.slice bX ((rd_T60 aG aJ).f1).length bY)) (fun _ hk=>trivial))⟩,⟨fm aA.out⟩,⟨fm aD.out⟩,⟨fm aC.out⟩,⟨bm aN.out⟩,⟨bl HB.out⟩⟩ ?_
   intro eU nn_;replace aH:=nn_.1;replace aE:=nn_.2.1;replace aI:=nn_.2.2.1;replace aA:=nn_.2.2.2.1;replace aD:=nn_.2.2.2.2.1;replace aC:=nn_.2.2.2.2.2.1;replace aN:=nn_.2.2.2.2.2.2.1;replace HB:=nn_.2.2.2.2.2.2.2;clear nn_;replace aH:=aM (Kd.R_drew aH.out);replace aE:=aM (Kd.S_drew aE.out);replace aI:=aM (Kd.R_drew aI.out);replace aA:=aM (blk_drew aA.out);replace aD:=aM (blk_drew aD.out);replace aC:=aM (blk_drew aC.out);replace aN:=aM (blk_drew aN.out);replace HB:=aM (below_drew1 HB.out);refine start_ (n:=12) (S:=fun w'=>cT3 w' aK (.slice bV bG.length bW) (u380001) (.slice bT aV.length bU) (cS2 w' bK (.int .i64 ((rd_T60 aG aJ).f0)) (.slice bX ((rd_T60 aG aJ).f1).length bY))) (ds:=[11]) (dn 12 0) (by kernel_rfl) rfl rfl ⟨cI aC.out 0,cI aC.out 1,cI aC.out 2,cI aN.out 0,cI aN.out 1⟩ (fun hHeld=>?_);refine with_tabW Y10.tab5 Y10.bits5 (fun HT_ HW_=>?_)
   generalize eU.drew=gT at aH aE aI aA aD aC aN HB hHeld ⊢
   refine nY (N:=some 20) HT_ ?_;refine pZ 2 22 (bv 12 5) HT_ ?_;refine pZ 4 24 (bv 12 21) HT_ ?_;refine aZ 1 21 (bv 12 23) HT_ HW_ hHeld ?_;refine aZ 3 23 (bv 12 31) HT_ HW_ hHeld ?_;refine aZ 5 25 (bv 12 63) HT_ HW_ hHeld ?_;refine one_ (i:=6) (N:=some 26) (bv 12 127) rfl rfl (one_of HT_.out (by kernel_rfl)) (by decide) (fun K hK=>?_)
   refine goes_ Try.func64 (by kernel_rfl) rfl #[.slice bX ((rd_T60 aG aJ).f1).length bY] (by rfl) rfl rfl xR ?_
   with_reducible refine (Y79.calls _ _ ((rd_T60 aG aJ).f1) cK _ ?side1 ?side2 eT.out).mono ?_
   (case side1=>exact cM (cB dU.out HB.out))
   (case side2=>exact dV.out)
   rintro e gU ⟨gM,rfl,ho0,hb⟩;refine ⟨_,rfl,?_⟩;have cR:=aM (Kd.R_lower ho0 (below_size (bl HB.out)));replace aH:=rK aH hb;replace aE:=aM (Kd.S_elder' (ks aE.out) (Kd.R_base ho0) hb);replace aI:=rK aI hb;replace aA:=rB aA hb;replace aD:=rB aD hb;replace aC:=rB aC hb;replace aN:=rB aN hb;replace HB:=rS HB hb
   (try clear hb)
   (try clear hb2)
   (try clear hk)
   (try clear hi)
   (try clear ho0)
   obtain ⟨dZ,eA,eB⟩:=Kd.R_slice cR.out
   (first|subst eB|(injection eB with f1_ f2_ f3_;have f4_:=f1_.symm;have f5_:=f3_.symm;clear f1_ f2_ f3_;subst f4_;subst f5_))
   refine hK.out _ _ ⟨cI aC.out 0,cI aC.out 1,cI aC.out 2,cI aN.out 0,cI aN.out 1⟩ (fun hHeld=>?_)
   clear hK K;refine norm_ (a':=?_) ?_ ?_;rotate_left
   ·show Act.put _ (some 26) _=_
    simp only [Act.put,sA,sZ,sS,i64_w,i32_w]
    rfl
   refine pZ 7 27 (bv 12 255) HT_ ?_;refine one_ (i:=8) (N:=some 28) (bv 12 511) rfl rfl (one_of HT_.out (by kernel_rfl)) (by decide) (fun K hK=>?_)
   refine value_ (w1:=?_) (v:=?_) (by rfl) rfl ?_ ?_
   rotate_left 2
   ·go_simp
    constructor
    ·rfl
    ·rfl
   refine hK.out _ _ ⟨(bC (blk_alloc aC.out _) 0).trans rfl,(bC (blk_alloc aC.out _) 1).trans rfl,(bC (blk_alloc aC.out _) 2).trans rfl,(bC (blk_alloc aN.out _) 0).trans rfl,(bC (blk_alloc aN.out _) 1).trans rfl⟩ (fun hHeld=>?_)
   clear hK K;refine norm_ (a':=?_) ?_ ?_;rotate_left
   ·show Act.put _ (some 28) _=_
    simp only [Act.put,sA,sZ,sS,i64_w,i32_w]
    rfl
   refine one_ (i:=9) (N:=some 29) (bv 12 1023) rfl rfl (one_of HT_.out (by kernel_rfl)) (by decide) (fun K hK=>?_)
   refine Kd.S_append_step k60 (w0:=w) w.heap.size (by rfl) (.tmp 21) (.tmp 28) 32 60 (.agg #[(.int .i64 0),(.slice none 0 0)]) 32 rfl Try.underlying32 info60 rfl (by decide) (by omega) u380001 bA (⟨(rd_T60 aG aJ).f0,cK⟩:S60) [.int .i64 ((rd_T60 aG aJ).f0),.slice dZ cK.length eA] (fun k_=>k_≠bK) (fun k_=>some k_=(.slice dZ cK.length eA:Value).ownBlock) rfl rfl ?aP (fun k_ hk_=>((Kd.R_mono (ok':=fun k_=>((fun k_=>k_≠bK)) k_∧some k_≠(u380001:Value).ownBlock) (Kd.R_types (Kd.R_apart' (cR.out) (Kd.S_typed aE.out) (by decide)) aN.out (by decide)) (fun k_ hk=>⟨hk.2,hk.1.2⟩))).1 k_ hk_.symm) ?aF ?aO ?aB ?aS ?aL ?_
   (case aP=>exact k60_mkM _ _ _ (⟨(rd_T60 aG aJ).f0,cK⟩:S60) (Kd.R_mono (Kd.R_tight rfl (Kd.R_mono (ok':=fun k_=>((fun k_=>k_≠bK)) k_∧some k_≠(u380001:Value).ownBlock) (Kd.R_types (Kd.R_apart' (cR.out) (Kd.S_typed aE.out) (by decide)) aN.out (by decide)) (fun k_ hk=>⟨hk.2,hk.1.2⟩))) (fun _ h_=>h_)))
   (case aB=>exact (bl HB.out))
   (case aF=>exact (fun k_ hk=>Kd.freshB (g:=bK) (o:=.cells #[((rd_T60 aG aJ).f0),.slice bX ((rd_T60 aG aJ).f1).length bY] 60 (0,0)) (bk aN.out) k_ hk))
   (case aO=>exact (ks (Kd.S_mono aE.out (fun k_ hk=>⟨hk.1,fun e_=>hk.2 e_⟩))))
   (case aS=>exact (below_size (bl HB.out)))
   (case aL=>have:=LMc25.out;omega)
   intro gN gV ho hb hg hat;rw [← eF.out] at ho
   have dS:=aM (ho);replace aH:=aM (Kd.R_over' (kr aH.out) (Kd.S_typed (ks aE.out)) (by decide) hg)
   replace aI:=aM (Kd.R_over' (kr aI.out) (Kd.S_typed (ks aE.out)) (by decide) hg)
   replace aA:=aM (blk_grown (bk aA.out) hg (Kd.S_ne aE.out aA.out (by decide)))
   replace aD:=aM (blk_grown (bk aD.out) hg (Kd.S_ne aE.out aD.out (by decide)))
   replace aC:=aM (blk_grown (bk aC.out) hg (Kd.S_ne aE.out aC.out (by decide)))
   replace aN:=aM (blk_grown (bk aN.out) hg (Kd.S_away aE.out (fun _ hk=>hk.1)))
   replace HB:=aM (hb);clear aE cR;clear ho hb hg hat;obtain ⟨dE,dF,eC⟩:=Kd.S_slice dS.out
   (first|subst eC|(injection eC with f1_ f2_ f3_;have f4_:=f1_.symm;have f5_:=f3_.symm;clear f1_ f2_ f3_;subst f4_;subst f5_))
   refine hK.out _ _ ⟨cI aC.out 0,cI aC.out 1,cI aC.out 2,cI aN.out 0,cI aN.out 1⟩ (fun hHeld=>?_)
   clear hK K;refine norm_ (a':=?_) ?_ ?_;rotate_left
   ·show Act.put _ (some 29) _=_
    simp only [Act.put,sA,sZ,sS,i64_w,i32_w]
    rfl
   refine pZ 10 30 (bv 12 2047) HT_ ?_;refine last_ (i:=11) (N:=none) (bv 12 4095) rfl rfl (one_of HT_.out (by kernel_rfl)) (by decide) (fun K hK=>?_)
   have gO:=cI aC.out 1;have hfs37:=bF aC.out 1;have hns37_0:=aQ.out;have hns37_1:=aW.out;have hns37_3:=cQ.out;have hms37_0:=aT.out;have hms37_1:=aX.out;have hms37_3:=cP.out;refine skip_ (w1:=?_) (by rfl) rfl ?_ ?_
   rotate_left
   ·go_simp
    rfl
   refine hK.out _ _ ?_;clear hK K;refine done_ (done_of HT_.out (by kernel_rfl)) ?_
   try go_wp2
   go_roundg k1
   case measure=>have:=eN.out;omega
   case rel=>exact ⟨(wS aJ),(cL),(.slice dE cL.length dF),xE,H',⟨by have:=eN.out;omega⟩,⟨kr (Kd.R_mono (kF (p:=⟨aK,1,none⟩) (Kd.R_types aH.out aC.out (by decide)) (fun _ hk=>hk.2) (.slice dE cL.length dF)) (fun _ hk=>trivial))⟩,⟨ks (Kd.S_mono (Kd.S_far (p:=⟨aK,1,none⟩) (Kd.S_types dS.out aC.out (by decide)) (fun _ hk=>hk.2) (.slice dE cL.length dF)) (fun _ hk=>trivial))⟩,⟨kr (Kd.R_mono (kF (p:=⟨aK,1,none⟩) (Kd.R_types aI.out aC.out (by decide)) (fun _ hk=>hk.2) (.slice dE cL.length dF)) (fun _ hk=>trivial))⟩,⟨fm aA.out⟩,⟨fm aD.out⟩,⟨by (with_reducible repeat (first|refine blk_drewN ?_ _|refine blk_drew ?_|refine blk_alloc ?_ _));refine blk_put (cs:=#[.slice bV bG.length bW,u380001,.slice bT aV.length bU]) ?_ 1 _ rfl;(with_reducible repeat (first|refine blk_drewN ?_ _|refine blk_drew ?_|refine blk_alloc ?_ _));exact aC.out⟩,⟨bl HB.out⟩⟩

def Y21.f (a0 a1 a2:Int):Option (Bool):=if a0 ≥ a1 then (some (decide (a0≤a2))) else (some false)
set_option maxHeartbeats 60000000 in
set_option maxRecDepth 100000 in
theorem Y21.calls (a0 a1 a2:Int) (r:Bool) (w:World) (h:Y21.f a0 a1 a2=some r) :
  Calls Try.prog 65 #[a0,a1,a2] w fun e w'=>e=.returned (.bool r)∧Drawn0 w w':=by
 have H:(if a0 ≥ a1 then (some (decide (a0≤a2))) else (some false))=some r:=h;clear h
 by_cases c4:a0 ≥ a1
 case pos =>
  rw [if_pos c4] at H
  have aA:=decide_eq_true c4;clear c4;obtain rfl:=Option.some.inj H;go_enter Try.func65,Try.ntmps65
  go_wp2
  go_ret
  exact ⟨by first|rfl|(simp;done)|(simp [*];done),by repeat (first|exact Drawn0.refl _|apply Drawn0.step)⟩
 rw [if_neg c4] at H
 have aA:=decide_eq_false c4;clear c4;obtain rfl:=Option.some.inj H;go_enter Try.func65,Try.ntmps65
 go_wp2
 go_ret
 exact ⟨by first|rfl|(simp;done)|(simp [*];done),by repeat (first|exact Drawn0.refl _|apply Drawn0.step)⟩

end Go.Proofs.Ytfljolhhgheheaa.PFnExactPass
