/- A part of the proof of laws.FnCards. No condition beyond what its theorems say. -/
import Derived.Test.YtjodolkdelffaaaVFnCardsPx10
import Derived.Test.YtjodolkdelffaaaVFnCardsPx11
namespace Go.Proofs.Ytjodolkdelffaaa.PFnCards
open Go.RowKit Go.Proofs.YtjodolkdelffaaaW.PrintWords Go.Proofs.YtjodolkdelffaaaW.PrintLast Go.Proofs.YtjodolkdelffaaaW.PrintMore
set_option linter.unusedVariables false
set_option linter.unusedSimpArgs false

def Z10.l0:Nat→List (S42)→Int→Int→List Bool→List (S42)→List (S72)→Option (List Bool × (List (S42)) × (List (S72)))
 | 0,_,_,_,_,_,_=>none
 | k+1,aG,aH,aC,aD,aA,aE=>if aC<aH then (if 0≤aC then (if aC<(aG.length:Int) then ((Z61.f ((rd_T42 aG aC).f1)).bind fun aI=>(if aA.length<4398046511104 then (Z10.l0 k aG aH (wrap64 (aC+1)) aD (aA++[(⟨(rd_T42 aG aC).f0,aI⟩:S42)]) aE) else (none))) else (none)) else (none)) else (some (aD,aA,aE))
def Z10.f (k:Nat) (aC:List Bool) (aA:List (S42)) (aD:List (S72)):Option (List Bool × (List (S42)) × (List (S72))):=(Z57.f aC).bind fun aE=>((Z40.f aD).bind fun aG=>(Z10.l0 k aA (aA.length:Int) 0 aE ([]:List (S42)) aG))
theorem Z10.mono_l:∀ k,(∀ y0 y1 y2 y3 y4 y5,LeO (Z10.l0 k y0 y1 y2 y3 y4 y5) (Z10.l0 (k+1) y0 y1 y2 y3 y4 y5))
 | 0=>fun _ _ _ _ _ _ r h=>by simp [Z10.l0] at h
 | k+1=>by
  have ih0:=Z10.mono_l k
  ·intro y0 y1 y2 y3 y4 y5
   unfold Z10.l0
   repeat' (with_reducible first|apply ih0|exact lR _|refine lI ?_ ?_|refine lB ?_ fun _=>?_)
theorem Z10.mono:∀ a0 a1 a2 k,LeO (Z10.f k a0 a1 a2) (Z10.f (k+1) a0 a1 a2):=by
 intro a0 a1 a2 k;have ih0:=Z10.mono_l k;unfold Z10.f
 repeat' (with_reducible first|apply ih0|exact lR _|refine lB ?_ fun _=>?_)
def Z10.T1:Bool × List (List Nat × List Nat):=(true,[([],[]),([0],[0]),([1],[1]),([],[]),([3],[3]),([4,2],[4]),([2,5],[2,5]),([],[]),([7,6,5,0,1,2,3,4,5,6,7],[6,7])])
def Z10.B1:List Nat:=[0,1,3,0,8,31,63,0,255]
theorem Z10.tab1:rtab .any (opsOf Try.f26 1)=Z10.T1:=by kernel_rfl
theorem Z10.bits1:waitsOk Z10.T1.2 Z10.B1=true:=by kernel_rfl
def Z10.T5:Bool × List (List Nat × List Nat):=(true,[([],[]),([0],[0]),([],[]),([2],[2]),([],[]),([4],[4]),([5],[5]),([3,6],[3,6]),([7],[7]),([1,8,6],[1,8]),([0,1,2,3,4,5,6,7,8,9],[]),([10,9,9,0,1,2,3,4,5,6,7,8,9],[9,10])])
def Z10.B5:List Nat:=[0,1,0,4,0,16,48,124,252,511,1023,2047]
theorem Z10.tab5:rtab .any (opsOf Try.f26 5)=Z10.T5:=by kernel_rfl
theorem Z10.bits5:waitsOk Z10.T5.2 Z10.B5=true:=by kernel_rfl
set_option maxHeartbeats 60000000 in
set_option maxRecDepth 100000 in
theorem Z10.calls (k:Nat) (bP:Option Addr) (bQ:Nat) (bL:List Bool) (cA:Option Addr) (bZ:Nat) (aG:List (S42)) (bN:Option Addr) (bO:Nat) (bI:List (S72)) (r1:List Bool) (r2:List (S42)) (r3:List (S72)) (w:World) (hr0_0:Kd.C Kd.bool w bP bL.length bL) (hc0_0:bL.length≤bQ) (hr0_1:Kd.C k42 w cA aG.length aG) (hc0_1:aG.length≤bZ) (hr0_2:Kd.C k72 w bN bI.length bI) (hc0_2:bI.length≤bO) (h:Z10.f k bL aG bI=some (r1,r2,r3)) :
  Calls Try.prog 26 #[.agg #[.slice bP bL.length bQ,.slice cA aG.length bZ,.slice bN bI.length bO]] w fun e w'=>∃ eH eI eJ:Value,e=.returned (.agg #[eH,eI,eJ])∧Kd.R Kd.bool 4 w' w.heap.size (fun _=>True) eH r1∧Kd.S k42 42 w' w.heap.size (fun _=>True) eI r2∧Kd.R k72 72 w' w.heap.size (fun _=>True) eJ r3∧Below w.heap.size w w':=by
 have dP:=aM hr0_0;have dQ:=aM hc0_0;clear hr0_0 hc0_0;have eD:=aM hr0_1;clear hr0_1 hc0_1;have cY:=aM hr0_2;have dA:=aM hc0_2;clear hr0_2 hc0_2;have HB:=aM (Below.refl w.heap.size w);have H:((Z57.f bL).bind fun bG=>((Z40.f bI).bind fun aV=>(Z10.l0 k aG (aG.length:Int) 0 bG ([]:List (S42)) aV)))=some (r1,r2,r3):=h
 clear h;obtain ⟨bG,eK,H⟩:=hB H;have A2:=aM eK;clear eK;obtain ⟨aV,eL,H⟩:=hB H;have A3:=aM eL;clear eL;have H':=aM H;clear H;go_enter Try.func26,Try.ntmps26
 try go_wp2_with (first|((with_reducible refine gD (N:=1) rfl ?_);refine bE (N:=1) (cs:=#[.slice bP bL.length bQ,.slice cA aG.length bZ,.slice bN bI.length bO]) (t:=28) ?_;intro bJ hg w4 hbox hb;have aA:=aM (hbox);replace HB:=rS HB hb;clear hb hbox hg)|((with_reducible refine gD (N:=2) rfl ?_);refine bE (N:=2) (cs:=#[.slice none 0 0,.slice none 0 0,.slice none 0 0]) (t:=28) ?_;intro bH hg w5 hbox hb;have aD:=aM (hbox);have eZ:=gF hg HB;have cN:=nM hg aA;have cO:=nH hg aA;replace aA:=rB aA hb;replace HB:=rS HB hb;clear hb hbox hg))
 replace aA:=aM (blk_drew aA.out);replace aD:=aM (blk_drew aD.out);replace HB:=aM (below_drew1 HB.out);refine start_ (n:=9) (S:=fun w'=>cS3 w' bJ (.slice bP bL.length bQ) (.slice cA aG.length bZ) (.slice bN bI.length bO)) (ds:=[]) (dn 9 0) (by kernel_rfl) rfl rfl ⟨cI aA.out 0,cI aA.out 1,cI aA.out 2⟩ (fun hHeld=>?_);refine with_tabW Z10.tab1 Z10.bits1 (fun HT_ HW_=>?_)
 generalize w5.drew=w6 at aA aD HB hHeld ⊢
 refine nY (N:=some 6) HT_ ?_;refine pZ 3 9 (bv 9 9) HT_ ?_;refine aZ 1 7 (bv 9 11) HT_ HW_ hHeld ?_;refine aZ 4 10 (bv 9 27) HT_ HW_ hHeld ?_;refine join_ (σ:=Value × Value × Nat) 1 (bv 9 255) (fun s_=>[(8,s_.1),(11,s_.2.1),(3,.pointer (some ⟨s_.2.2,0,none⟩)),(12,.agg #[s_.1,.slice none 0 0,s_.2.1])]) (fun s_ w'=>(w'.cell? ⟨bJ,0,none⟩=some (.slice bP bL.length bQ)∧w'.cell? ⟨bJ,1,none⟩=some (.slice cA aG.length bZ)∧w'.cell? ⟨bJ,2,none⟩=some (.slice bN bI.length bO))∧(Kd.R Kd.bool 4 w' w.heap.size (fun _=>True) s_.1 bG)∧(Kd.R k72 72 w' w.heap.size (fun _=>True) s_.2.1 aV)∧(w'.heap[bJ]?=some (.cells #[.slice bP bL.length bQ,.slice cA aG.length bZ,.slice bN bI.length bO] 28 (0,0)))∧(w'.heap[bH]?=some (.cells #[.slice none 0 0,.slice none 0 0,.slice none 0 0] 28 (0,0)))∧(w'.heap[s_.2.2]?=some (.cells #[.slice none 0 0,.slice none 0 0,.slice none 0 0] 28 (0,0)))∧(w.heap.size≤s_.2.2)∧(w.heap.size≤s_.2.2)∧(bJ≠s_.2.2)∧(s_.2.2≠bJ)∧(bH≠s_.2.2)∧(s_.2.2≠bH)∧(Below w.heap.size w w')) ?_ ?_
 rotate_left
 ·intro hCont
  refine two_ (i:=2) (j:=7) (Ni:=some 8) (Nj:=some 3) (bv 9 31) (bv 9 155) rfl rfl rfl rfl (two_of HT_.out (by kernel_rfl)) (by decide) (by decide) (fun K hK=>?_) (fun K hK=>?_)
  ·skip
   refine goes_ Try.func55 (by kernel_rfl) rfl #[.slice bP bL.length bQ] (by rfl) rfl rfl xR ?_
   with_reducible refine (Z57.calls _ _ bL bG _ ?side1 ?side2 A2.out).mono ?_
   (case side1=>exact cM (cB dP.out HB.out))
   (case side2=>exact dQ.out)
   rintro e w7 ⟨dK,rfl,ho0,hb⟩;refine ⟨_,rfl,?_⟩;have bD:=aM (Kd.R_lower ho0 (below_size (bl HB.out)));replace aA:=rB aA hb;replace aD:=rB aD hb;replace HB:=rS HB hb
   (try clear hb)
   (try clear ho0)
   refine hK.out _ _ ⟨cI aA.out 0,cI aA.out 1,cI aA.out 2⟩ (fun hHeld=>?_)
   clear hK K;refine norm_ (a':=?_) ?_ ?_;rotate_left
   ·show Act.put _ (some 8) _=_
    simp only [Act.put,sA,sZ,sS,i64_w,i32_w]
    rfl
   refine two_ (i:=5) (j:=7) (Ni:=some 11) (Nj:=some 3) (bv 9 63) (bv 9 159) rfl rfl rfl rfl (two_of HT_.out (by kernel_rfl)) (by decide) (by decide) (fun K hK=>?_) (fun K hK=>?_)
   ·skip
    refine goes_ Try.func56 (by kernel_rfl) rfl #[.slice bN bI.length bO] (by rfl) rfl rfl xR ?_
    with_reducible refine (Z40.calls _ _ bI aV _ ?side1 ?side2 A3.out).mono ?_
    (case side1=>exact cM (cB cY.out HB.out))
    (case side2=>exact dA.out)
    rintro e w8 ⟨dB,rfl,ho0,hb⟩;refine ⟨_,rfl,?_⟩;have bM:=aM (Kd.R_lower ho0 (below_size (bl HB.out)));replace bD:=rK bD hb;replace aA:=rB aA hb;replace aD:=rB aD hb;replace HB:=rS HB hb
    (try clear hb)
    (try clear ho0)
    obtain ⟨eQ,eR,eM⟩:=Kd.R_slice bM.out
    (subst eM)
    obtain ⟨cS,cT,cC⟩:=Kd.R_slice bD.out
    (subst cC)
    refine hK.out _ _ ⟨cI aA.out 0,cI aA.out 1,cI aA.out 2⟩ (fun hHeld=>?_)
    clear hK K;refine norm_ (a':=?_) ?_ ?_;rotate_left
    ·show Act.put _ (some 11) _=_
     simp only [Act.put,sA,sZ,sS,i64_w,i32_w]
     rfl
    refine pZ 6 12 (bv 9 127) HT_ ?_;refine one_ (i:=7) (N:=some 3) (bv 9 255) rfl rfl (one_of HT_.out (by kernel_rfl)) (by decide) (fun K hK=>?_)
    refine box_step ?hg (N:=3) ?hd (cs:=#[.slice none 0 0,.slice none 0 0,.slice none 0 0]) (t:=28) ?hr ?_;(case hd=>rfl);(case hg=>rfl);(case hr=>(go_simp;done))
    intro aK hg gP hbox hb;have aC:=aM (hbox);have cD:=gF hg HB;have cE:=gF hg HB;have aQ:=nM hg aA;have aT:=nH hg aA;have aW:=nM hg aD;have aX:=nH hg aD;replace bD:=rK bD hb;replace bM:=rK bM hb;replace aA:=rB aA hb;replace aD:=rB aD hb;replace HB:=rS HB hb;clear hb hbox hg;refine hK.out _ _ ⟨cI aA.out 0,cI aA.out 1,cI aA.out 2⟩ (fun hHeld=>?_)
    clear hK K;refine norm_ (a':=?_) ?_ ?_;rotate_left
    ·show Act.put _ (some 3) _=_
     simp only [Act.put,sA,sZ,sS,i64_w,i32_w]
     rfl
    exact norm_ (by simp only [putAll,Act.put,sA,sZ,sS]) (hCont (.slice cS bG.length cT,.slice eQ aV.length eR,aK) _ ⟨hHeld,(kr bD.out),(kr bM.out),(bk aA.out),(bk aD.out),(bk aC.out),cD.out,cE.out,aQ.out,aT.out,aW.out,aX.out,(bl HB.out)⟩)
   ·skip
    refine box_step ?hg (N:=3) ?hd (cs:=#[.slice none 0 0,.slice none 0 0,.slice none 0 0]) (t:=28) ?hr ?_;(case hd=>rfl);(case hg=>rfl);(case hr=>(go_simp;done))
    intro aK hg w8 hbox hb;have aC:=aM (hbox);have cD:=gF hg HB;have cE:=gF hg HB;have aQ:=nM hg aA;have aT:=nH hg aA;have aW:=nM hg aD;have aX:=nH hg aD;replace bD:=rK bD hb;replace aA:=rB aA hb;replace aD:=rB aD hb;replace HB:=rS HB hb;clear hb hbox hg;refine hK.out _ _ ⟨cI aA.out 0,cI aA.out 1,cI aA.out 2⟩ (fun hHeld=>?_)
    clear hK K;refine norm_ (a':=?_) ?_ ?_;rotate_left
    ·show Act.put _ (some 3) _=_
     simp only [Act.put,sA,sZ,sS,i64_w,i32_w]
     rfl
    refine one_ (i:=5) (N:=some 11) (bv 9 191) rfl rfl (one_of HT_.out (by kernel_rfl)) (by decide) (fun K hK=>?_)
    refine goes_ Try.func56 (by kernel_rfl) rfl #[.slice bN bI.length bO] (by rfl) rfl rfl xR ?_
    with_reducible refine (Z40.calls _ _ bI aV _ ?side1 ?side2 A3.out).mono ?_
    (case side1=>exact cM (cB cY.out HB.out))
    (case side2=>exact dA.out)
    rintro e w9 ⟨dB,rfl,ho0,hb⟩;refine ⟨_,rfl,?_⟩;have bM:=aM (Kd.R_lower ho0 (below_size (bl HB.out)));replace bD:=rK bD hb;replace aA:=rB aA hb;replace aD:=rB aD hb;replace aC:=rB aC hb;replace HB:=rS HB hb
    (try clear hb)
    (try clear ho0)
    obtain ⟨cS,cT,cC⟩:=Kd.R_slice bM.out
    (subst cC)
    obtain ⟨dL,dM,cU⟩:=Kd.R_slice bD.out
    (subst cU)
    refine hK.out _ _ ⟨cI aA.out 0,cI aA.out 1,cI aA.out 2⟩ (fun hHeld=>?_)
    clear hK K;refine norm_ (a':=?_) ?_ ?_;rotate_left
    ·show Act.put _ (some 11) _=_
     simp only [Act.put,sA,sZ,sS,i64_w,i32_w]
     rfl
    refine pZ 6 12 (bv 9 255) HT_ ?_;exact norm_ (by simp only [putAll,Act.put,sA,sZ,sS]) (hCont (.slice dL bG.length dM,.slice cS aV.length cT,aK) _ ⟨hHeld,(kr bD.out),(kr bM.out),(bk aA.out),(bk aD.out),(bk aC.out),cD.out,cE.out,aQ.out,aT.out,aW.out,aX.out,(bl HB.out)⟩)
  ·skip
   refine box_step ?hg (N:=3) ?hd (cs:=#[.slice none 0 0,.slice none 0 0,.slice none 0 0]) (t:=28) ?hr ?_;(case hd=>rfl);(case hg=>rfl);(case hr=>(go_simp;done))
   intro aK hg w7 hbox hb;have aC:=aM (hbox);have cD:=gF hg HB;have cE:=gF hg HB;have aQ:=nM hg aA;have aT:=nH hg aA;have aW:=nM hg aD;have aX:=nH hg aD;replace aA:=rB aA hb;replace aD:=rB aD hb;replace HB:=rS HB hb;clear hb hbox hg;refine hK.out _ _ ⟨cI aA.out 0,cI aA.out 1,cI aA.out 2⟩ (fun hHeld=>?_)
   clear hK K;refine norm_ (a':=?_) ?_ ?_;rotate_left
   ·show Act.put _ (some 3) _=_
    simp only [Act.put,sA,sZ,sS,i64_w,i32_w]
    rfl
   refine one_ (i:=2) (N:=some 8) (bv 9 159) rfl rfl (one_of HT_.out (by kernel_rfl)) (by decide) (fun K hK=>?_)
   refine goes_ Try.func55 (by kernel_rfl) rfl #[.slice bP bL.length bQ] (by rfl) rfl rfl xR ?_
   with_reducible refine (Z57.calls _ _ bL bG _ ?side1 ?side2 A2.out).mono ?_
   (case side1=>exact cM (cB dP.out HB.out))
   (case side2=>exact dQ.out)
   rintro e w8 ⟨dK,rfl,ho0,hb⟩;refine ⟨_,rfl,?_⟩;have bD:=aM (Kd.R_lower ho0 (below_size (bl HB.out)));replace aA:=rB aA hb;replace aD:=rB aD hb;replace aC:=rB aC hb;replace HB:=rS HB hb
   (try clear hb)
   (try clear ho0)
   refine hK.out _ _ ⟨cI aA.out 0,cI aA.out 1,cI aA.out 2⟩ (fun hHeld=>?_)
   clear hK K;refine norm_ (a':=?_) ?_ ?_;rotate_left
   ·show Act.put _ (some 8) _=_
    simp only [Act.put,sA,sZ,sS,i64_w,i32_w]
    rfl
   refine one_ (i:=5) (N:=some 11) (bv 9 191) rfl rfl (one_of HT_.out (by kernel_rfl)) (by decide) (fun K hK=>?_)
   refine goes_ Try.func56 (by kernel_rfl) rfl #[.slice bN bI.length bO] (by rfl) rfl rfl xR ?_
   with_reducible refine (Z40.calls _ _ bI aV _ ?side1 ?side2 A3.out).mono ?_
   (case side1=>exact cM (cB cY.out HB.out))
   (case side2=>exact dA.out)
   rintro e w9 ⟨dB,rfl,ho0,hb⟩;refine ⟨_,rfl,?_⟩;have bM:=aM (Kd.R_lower ho0 (below_size (bl HB.out)));replace bD:=rK bD hb;replace aA:=rB aA hb;replace aD:=rB aD hb;replace aC:=rB aC hb;replace HB:=rS HB hb
   (try clear hb)
   (try clear ho0)
   obtain ⟨cS,cT,cC⟩:=Kd.R_slice bM.out
   (subst cC)
   obtain ⟨dL,dM,cU⟩:=Kd.R_slice bD.out
   (subst cU)
   refine hK.out _ _ ⟨cI aA.out 0,cI aA.out 1,cI aA.out 2⟩ (fun hHeld=>?_)
   clear hK K;refine norm_ (a':=?_) ?_ ?_;rotate_left
   ·show Act.put _ (some 11) _=_
    simp only [Act.put,sA,sZ,sS,i64_w,i32_w]
    rfl
   refine pZ 6 12 (bv 9 255) HT_ ?_;exact norm_ (by simp only [putAll,Act.put,sA,sZ,sS]) (hCont (.slice dL bG.length dM,.slice cS aV.length cT,aK) _ ⟨hHeld,(kr bD.out),(kr bM.out),(bk aA.out),(bk aD.out),(bk aC.out),cD.out,cE.out,aQ.out,aT.out,aW.out,aX.out,(bl HB.out)⟩)
 rintro ⟨dK,dB,aK⟩ cG ⟨hS_,h0_,h1_,h2_,h3_,h4_,h5_,h6_,h7_,h8_,h9_,h10_,h11_⟩;have bD:Aside0 (Kd.R Kd.bool 4 cG w.heap.size (fun _=>True) dK bG):=⟨h0_⟩
 have bM:Aside0 (Kd.R k72 72 cG w.heap.size (fun _=>True) dB aV):=⟨h1_⟩
 have aC:Aside0 (cG.heap[aK]?=some (.cells #[.slice none 0 0,.slice none 0 0,.slice none 0 0] 28 (0,0))):=⟨h4_⟩;have cD:Aside0 (w.heap.size≤aK):=⟨h5_⟩;have cE:Aside0 (w.heap.size≤aK):=⟨h6_⟩;have aQ:Aside0 (bJ≠aK):=⟨h7_⟩;have aT:Aside0 (aK≠bJ):=⟨h8_⟩;have aW:Aside0 (bH≠aK):=⟨h9_⟩;have aX:Aside0 (aK≠bH):=⟨h10_⟩;replace aA:Aside0 (cG.heap[bJ]?=some (.cells #[.slice bP bL.length bQ,.slice cA aG.length bZ,.slice bN bI.length bO] 28 (0,0))):=⟨h2_⟩;replace aD:Aside0 (cG.heap[bH]?=some (.cells #[.slice none 0 0,.slice none 0 0,.slice none 0 0] 28 (0,0))):=⟨h3_⟩;replace HB:Aside0 (Below w.heap.size w cG):=⟨h11_⟩;clear h0_ h1_ h2_ h3_ h4_ h5_ h6_ h7_ h8_ h9_ h10_ h11_;have hHeld:cG.cell? ⟨bJ,0,none⟩=some (.slice bP bL.length bQ)∧cG.cell? ⟨bJ,1,none⟩=some (.slice cA aG.length bZ)∧cG.cell? ⟨bJ,2,none⟩=some (.slice bN bI.length bO):=hS_;obtain ⟨bT,bU,dW⟩:=Kd.R_slice bM.out
 (subst dW)
 obtain ⟨bV,bW,dX⟩:=Kd.R_slice bD.out
 (subst dX)
 refine norm_ (a':=?_) ?_ ?_;rotate_left
 ·simp only [putAll,Act.put,sA,sZ,sS]
  rfl
 refine one_ (i:=8) (N:=none) (bv 9 511) rfl rfl (one_of HT_.out (by kernel_rfl)) (by decide) (fun K hK=>?_)
 have gH:=cI aC.out 0;have hfs15:=bF aC.out 0;have gJ:=cI aC.out 1;have hfs16:=bF aC.out 1;have gK:=cI aC.out 2;have hfs17:=bF aC.out 2;refine skip_ (w1:=?_) (by rfl) rfl ?_ ?_
 rotate_left
 ·go_simp
  rfl
 refine hK.out _ _ ⟨(cm (hHeld.1)),(cm (hHeld.2.1)),(cm (hHeld.2.2))⟩ (fun hHeld=>?_)
 clear hK K;refine done_ (done_of HT_.out (by kernel_rfl)) ?_
 try go_wp2
 go_loopg [16] k (fun kq eS w'=>∃ (aJ:Int) (bA:List (S42)) (u522001:Value),eS=.int .i64 aJ∧Aside0 (Z10.l0 kq aG (aG.length:Int) aJ bG bA aV=some (r1,r2,r3))∧Aside0 (kq≤k)∧Aside0 (Kd.R Kd.bool 4 w' w.heap.size (fun _=>True) (.slice bV bG.length bW) bG)∧Aside0 (Kd.S k42 42 w' w.heap.size (fun _=>True) u522001 bA)∧Aside0 (Kd.R k72 72 w' w.heap.size (fun _=>True) (.slice bT aV.length bU) aV)∧Aside0 (w'.heap[bJ]?=some (.cells #[(.slice bP bL.length bQ),(.slice cA aG.length bZ),(.slice bN bI.length bO)] 28 (0,0)))∧Aside0 (w'.heap[bH]?=some (.cells #[(.slice none 0 0),(.slice none 0 0),(.slice none 0 0)] 28 (0,0)))∧Aside0 (w'.heap[aK]?=some (.cells #[(.slice bV bG.length bW),u522001,(.slice bT aV.length bU)] 28 (0,0)))∧Aside0 (Below w.heap.size w w'))
 case atStart=>exact ⟨(0),(([]:List (S42))),(.slice none 0 0),xE,H',⟨Nat.le_refl _⟩,⟨kr (Kd.R_mono (rT3 bD.out aC.out (.slice bV bG.length bW) (.slice none 0 0) (.slice bT aV.length bU)) (fun _ hk=>trivial))⟩,⟨by exact Kd.S_nil _ _ _ _ _⟩,⟨kr (Kd.R_mono (rT3 bM.out aC.out (.slice bV bG.length bW) (.slice none 0 0) (.slice bT aV.length bU)) (fun _ hk=>trivial))⟩,⟨fm aA.out⟩,⟨fm aD.out⟩,⟨bm aC.out⟩,⟨bl HB.out⟩⟩
 case round =>
  clear H'
  repeat first|clear c1|clear c2|clear p2|clear c5|clear gQ|clear gR
  obtain ⟨aJ,bA,u522001,rfl,HA,eN,aH,aE,aI,aA,aD,aC,HB⟩:=hrel;cases gk with
  | zero=>exact absurd HA.out (by simp [Z10.l0])
  | succ k1 =>
   have H:=HA.out;clear HA;simp only [Z10.l0] at H
   by_cases cV:aJ<(aG.length:Int)
   case neg =>
    rw [if_neg cV] at H
    have eE:=decide_eq_false cV;clear cV;simp only [Option.some.injEq,Prod.mk.injEq] at H;obtain ⟨rfl,rfl,rfl⟩:=H;have fK:=cA3 aC.out;have fN:=cA3 aD.out;obtain ⟨dC,dD,eO⟩:=Kd.S_slice aE.out;subst eO;go_wp2
    refine bodyPost_ret (results_cell_row rfl _ _ bH 28 #[.slice bV bG.length bW,.slice dC bA.length dD,.slice bT aV.length bU] (0,0) _ rfl (bm aD.out) Try.underlying28 rfl (by kernel_rfl)) rfl ?_
    exact ⟨_,_,_,xW,by (with_reducible repeat (first|apply Kd.R_alloc|apply Kd.R_drewN|apply Kd.R_drew));exact Kd.R_mono (rT3 aH.out aD.out (.slice bV bG.length bW) (.slice dC bA.length dD) (.slice bT aV.length bU)) (fun _ hk=>trivial),ks (Kd.S_mono (sT3 aE.out aD.out (.slice bV bG.length bW) (.slice dC bA.length dD) (.slice bT aV.length bU)) (fun _ hk=>trivial)),by (with_reducible repeat (first|apply Kd.R_alloc|apply Kd.R_drewN|apply Kd.R_drew));exact Kd.R_mono (rT3 aI.out aD.out (.slice bV bG.length bW) (.slice dC bA.length dD) (.slice bT aV.length bU)) (fun _ hk=>trivial),bl HB.out⟩
   rw [if_pos cV] at H
   have eE:=decide_eq_true cV;clear cV;obtain ⟨fO,H⟩:=gI H;obtain ⟨fP,H⟩:=gI H;obtain ⟨cK,dY,H⟩:=hB H;have eT:=aM dY;clear dY
   by_cases dR:bA.length<4398046511104
   case neg =>
    rw [if_neg dR] at H
    exact absurd H (by simp)
   rw [if_pos dR] at H
   have LMc25:=aM dR;clear dR;obtain ⟨cL,cH⟩:∃ y_:List (S42),y_=(bA++[(⟨(rd_T42 aG aJ).f0,cK⟩:S42)]):=⟨_,rfl⟩;replace H:(Z10.l0 k1 aG (aG.length:Int) (wS aJ) bG cL aV)=some (r1,r2,r3):=by (rw [cH];with_reducible exact H)
   have eF:=aM cH;clear cH;have H':=aM H;clear H;have dN:0≤(aJ:Int):=dT;have dO:aJ<(aG.length:Int):=dT;obtain ⟨eG,bX,bY,eP,cW,cX,hl522_1,hi522_1⟩:=at_T42 eD.out aJ dN dO;cases eP
   replace cW:=xB HB cW;replace cX:=xB HB cX;have dU:=aM hi522_1;have dV:=aM hl522_1;clear hi522_1 hl522_1;replace dN:=eq_true dN;replace dO:=eq_true dO
   try go_wp2_with (((with_reducible refine gD (N:=5) rfl ?_);refine box_event ?hg (N:=5) ?hd (cs:=#[.int .i64 0,.slice none 0 0]) (t:=42) ?hr ?_;(case hd=>rfl);(case hg=>rfl);(case hr=>(go_simp;done));intro bK hg gS hbox hb;have aN:=aM (hbox);have fS:=gF hg HB;have dG:=nM hg aA;have dH:=nH hg aA;have dI:=nM hg aD;have dJ:=nH hg aD;have cP:=nM hg aC;have cQ:=nH hg aC;replace aH:=rK aH hb;replace aE:=aM (Kd.S_below (Kd.S_elderB (ks aE.out) bK (Nat.le_of_eq hg.symm)) hb);replace aI:=rK aI hb;replace aA:=rB aA hb;replace aD:=rB aD hb;replace aC:=rB aC hb;replace HB:=rS HB hb;clear hb hbox hg;have gA:=cA2 aN.out))
   refine nW (fun W=>Aside0 (Kd.R Kd.bool 4 W w.heap.size (fun _=>True) (.slice bV bG.length bW) bG)∧Aside0 (Kd.S k42 42 W w.heap.size (fun k_=>k_≠bK) u522001 bA)∧Aside0 (Kd.R k72 72 W w.heap.size (fun _=>True) (.slice bT aV.length bU) aV)∧Aside0 (W.heap[bJ]?=some (.cells #[.slice bP bL.length bQ,.slice (some eG) aG.length bZ,.slice bN bI.length bO] 28 (0,0)))∧Aside0 (W.heap[bH]?=some (.cells #[.slice none 0 0,.slice none 0 0,.slice none 0 0] 28 (0,0)))∧Aside0 (W.heap[aK]?=some (.cells #[.slice bV bG.length bW,u522001,.slice bT aV.length bU] 28 (0,0)))∧Aside0 (W.heap[bK]?=some (.cells #[((rd_T42 aG aJ).f0),.slice bX ((rd_T42 aG aJ).f1).length bY] 42 (0,0)))∧Aside0 (Below w.heap.size w W)) ⟨⟨kr (Kd.R_mono (rT2 aH.out aN.out (.int .i64 ((rd_T42 aG aJ).f0)) (.slice bX ((rd_T42 aG aJ).f1).length bY)) (fun _ hk=>trivial))⟩,⟨ks (Kd.S_mono (sF2 (g:=bK) (Kd.S_mono aE.out (fun k_ hk=>(⟨hk,hk.2⟩:_∧k_≠bK))) (fun _ hk=>hk.2) (.int .i64 ((rd_T42 aG aJ).f0)) (.slice bX ((rd_T42 aG aJ).f1).length bY)) (fun _ hk=>hk.1.2))⟩,⟨kr (Kd.R_mono (rT2 aI.out aN.out (.int .i64 ((rd_T42 aG aJ).f0)) (.slice bX ((rd_T42 aG aJ).f1).length bY)) (fun _ hk=>trivial))⟩,⟨fm aA.out⟩,⟨fm aD.out⟩,⟨fm aC.out⟩,⟨bm aN.out⟩,⟨bl HB.out⟩⟩ ?_
   intro eU nn_;replace aH:=nn_.1;replace aE:=nn_.2.1;replace aI:=nn_.2.2.1;replace aA:=nn_.2.2.2.1;replace aD:=nn_.2.2.2.2.1;replace aC:=nn_.2.2.2.2.2.1;replace aN:=nn_.2.2.2.2.2.2.1;replace HB:=nn_.2.2.2.2.2.2.2;clear nn_;replace aH:=aM (Kd.R_drew aH.out);replace aE:=aM (Kd.S_drew aE.out);replace aI:=aM (Kd.R_drew aI.out);replace aA:=aM (blk_drew aA.out);replace aD:=aM (blk_drew aD.out);replace aC:=aM (blk_drew aC.out);replace aN:=aM (blk_drew aN.out);replace HB:=aM (below_drew1 HB.out);refine start_ (n:=12) (S:=fun w'=>cT3 w' aK (.slice bV bG.length bW) (u522001) (.slice bT aV.length bU) (cS2 w' bK (.int .i64 ((rd_T42 aG aJ).f0)) (.slice bX ((rd_T42 aG aJ).f1).length bY))) (ds:=[11]) (dn 12 0) (by kernel_rfl) rfl rfl ⟨cI aC.out 0,cI aC.out 1,cI aC.out 2,cI aN.out 0,cI aN.out 1⟩ (fun hHeld=>?_);refine with_tabW Z10.tab5 Z10.bits5 (fun HT_ HW_=>?_)
   generalize eU.drew=gT at aH aE aI aA aD aC aN HB hHeld ⊢
   refine nY (N:=some 20) HT_ ?_;refine pZ 2 22 (bv 12 5) HT_ ?_;refine pZ 4 24 (bv 12 21) HT_ ?_;refine aZ 1 21 (bv 12 23) HT_ HW_ hHeld ?_;refine aZ 3 23 (bv 12 31) HT_ HW_ hHeld ?_;refine aZ 5 25 (bv 12 63) HT_ HW_ hHeld ?_;refine one_ (i:=6) (N:=some 26) (bv 12 127) rfl rfl (one_of HT_.out (by kernel_rfl)) (by decide) (fun K hK=>?_)
   refine goes_ Try.func57 (by kernel_rfl) rfl #[.slice bX ((rd_T42 aG aJ).f1).length bY] (by rfl) rfl rfl xR ?_
   with_reducible refine (Z61.calls _ _ ((rd_T42 aG aJ).f1) cK _ ?side1 ?side2 eT.out).mono ?_
   (case side1=>exact cM (cB dU.out HB.out))
   (case side2=>exact dV.out)
   rintro e gU ⟨gM,rfl,ho0,hb⟩;refine ⟨_,rfl,?_⟩;have cR:=aM (Kd.R_lower ho0 (below_size (bl HB.out)));replace aH:=rK aH hb;replace aE:=aM (Kd.S_elder' (ks aE.out) (Kd.R_base ho0) hb);replace aI:=rK aI hb;replace aA:=rB aA hb;replace aD:=rB aD hb;replace aC:=rB aC hb;replace aN:=rB aN hb;replace HB:=rS HB hb
   (try clear hb)
   (try clear ho0)
   obtain ⟨dZ,eA,eB⟩:=Kd.R_slice cR.out
   (subst eB)
   refine hK.out _ _ ⟨cI aC.out 0,cI aC.out 1,cI aC.out 2,cI aN.out 0,cI aN.out 1⟩ (fun hHeld=>?_)
   clear hK K;refine norm_ (a':=?_) ?_ ?_;rotate_left
   ·show Act.put _ (some 26) _=_
    simp only [Act.put,sA,sZ,sS,i64_w,i32_w]
    rfl
   refine pZ 7 27 (bv 12 255) HT_ ?_;refine one_ (i:=8) (N:=some 28) (bv 12 511) rfl rfl (one_of HT_.out (by kernel_rfl)) (by decide) (fun K hK=>?_)
   refine value_ (w1:=?_) (v:=?_) (by rfl) rfl ?_ ?_
   rotate_left 2
   ·go_simp
    constructor
    ·rfl
    ·rfl
   refine hK.out _ _ ⟨(bC (blk_alloc aC.out _) 0).trans rfl,(bC (blk_alloc aC.out _) 1).trans rfl,(bC (blk_alloc aC.out _) 2).trans rfl,(bC (blk_alloc aN.out _) 0).trans rfl,(bC (blk_alloc aN.out _) 1).trans rfl⟩ (fun hHeld=>?_)
   clear hK K;refine norm_ (a':=?_) ?_ ?_;rotate_left
   ·show Act.put _ (some 28) _=_
    simp only [Act.put,sA,sZ,sS,i64_w,i32_w]
    rfl
   refine one_ (i:=9) (N:=some 29) (bv 12 1023) rfl rfl (one_of HT_.out (by kernel_rfl)) (by decide) (fun K hK=>?_)
   refine Kd.S_append_step k42 (w0:=w) w.heap.size (by rfl) (.tmp 21) (.tmp 28) 25 42 (.agg #[(.int .i64 0),(.slice none 0 0)]) 32 rfl Try.underlying25 info42 rfl (by decide) (by omega) u522001 bA (⟨(rd_T42 aG aJ).f0,cK⟩:S42) [.int .i64 ((rd_T42 aG aJ).f0),.slice dZ cK.length eA] (fun k_=>k_≠bK) (fun k_=>some k_=(.slice dZ cK.length eA:Value).ownBlock) rfl rfl ?aP (fun k_ hk_=>((Kd.R_mono (ok':=fun k_=>((fun k_=>k_≠bK)) k_∧some k_≠(u522001:Value).ownBlock) (Kd.R_types (Kd.R_apart' (cR.out) (Kd.S_typed aE.out) (by decide)) aN.out (by decide)) (fun k_ hk=>⟨hk.2,hk.1.2⟩))).1 k_ hk_.symm) ?aF ?aO ?aB ?aS ?aL ?_
   (case aP=>exact k42_mkM _ _ _ (⟨(rd_T42 aG aJ).f0,cK⟩:S42) (Kd.R_mono (Kd.R_tight rfl (Kd.R_mono (ok':=fun k_=>((fun k_=>k_≠bK)) k_∧some k_≠(u522001:Value).ownBlock) (Kd.R_types (Kd.R_apart' (cR.out) (Kd.S_typed aE.out) (by decide)) aN.out (by decide)) (fun k_ hk=>⟨hk.2,hk.1.2⟩))) (fun _ h_=>h_)))
   (case aB=>exact (bl HB.out))
   (case aF=>exact (fun k_ hk=>Kd.freshB (g:=bK) (o:=.cells #[((rd_T42 aG aJ).f0),.slice bX ((rd_T42 aG aJ).f1).length bY] 42 (0,0)) (bk aN.out) k_ hk))
   (case aO=>exact (ks (Kd.S_mono aE.out (fun k_ hk=>⟨hk.1,fun e_=>hk.2 e_⟩))))
   (case aS=>exact (below_size (bl HB.out)))
   (case aL=>have:=LMc25.out;omega)
   intro gN gV ho hb hg hat;rw [← eF.out] at ho
   have dS:=aM (ho);replace aH:=aM (Kd.R_over' (kr aH.out) (Kd.S_typed (ks aE.out)) (by decide) hg)
   replace aI:=aM (Kd.R_over' (kr aI.out) (Kd.S_typed (ks aE.out)) (by decide) hg)
   replace aA:=aM (blk_grown (bk aA.out) hg (Kd.S_ne aE.out aA.out (by decide)))
   replace aD:=aM (blk_grown (bk aD.out) hg (Kd.S_ne aE.out aD.out (by decide)))
   replace aC:=aM (blk_grown (bk aC.out) hg (Kd.S_ne aE.out aC.out (by decide)))
   replace aN:=aM (blk_grown (bk aN.out) hg (Kd.S_away aE.out (fun _ hk=>hk.1)))
   replace HB:=aM (hb);clear aE cR;clear ho hb hg hat;obtain ⟨dE,dF,eC⟩:=Kd.S_slice dS.out
   (subst eC)
   refine hK.out _ _ ⟨cI aC.out 0,cI aC.out 1,cI aC.out 2,cI aN.out 0,cI aN.out 1⟩ (fun hHeld=>?_)
   clear hK K;refine norm_ (a':=?_) ?_ ?_;rotate_left
   ·show Act.put _ (some 29) _=_
    simp only [Act.put,sA,sZ,sS,i64_w,i32_w]
    rfl
   refine pZ 10 30 (bv 12 2047) HT_ ?_;refine last_ (i:=11) (N:=none) (bv 12 4095) rfl rfl (one_of HT_.out (by kernel_rfl)) (by decide) (fun K hK=>?_)
   have hfs37:=bF aC.out 1;refine skip_ (w1:=?_) (by rfl) rfl ?_ ?_
   rotate_left
   ·go_simp
    rfl
   refine hK.out _ _ ?_;clear hK K;refine done_ (done_of HT_.out (by kernel_rfl)) ?_
   try go_wp2
   go_roundg k1
   case measure=>have:=eN.out;omega
   case rel=>exact ⟨(wS aJ),(cL),(.slice dE cL.length dF),xE,H',⟨by have:=eN.out;omega⟩,⟨kr (Kd.R_mono (rU1 1 aH.out aC.out (.slice dE cL.length dF)) (fun _ hk=>trivial))⟩,⟨ks (Kd.S_mono (sU1 1 dS.out aC.out (.slice dE cL.length dF)) (fun _ hk=>trivial))⟩,⟨kr (Kd.R_mono (rU1 1 aI.out aC.out (.slice dE cL.length dF)) (fun _ hk=>trivial))⟩,⟨fm aA.out⟩,⟨fm aD.out⟩,⟨by (with_reducible repeat (first|refine blk_drewN ?_ _|refine blk_drew ?_|refine blk_alloc ?_ _));refine blk_put (cs:=#[.slice bV bG.length bW,u522001,.slice bT aV.length bU]) ?_ 1 _ rfl;(with_reducible repeat (first|refine blk_drewN ?_ _|refine blk_drew ?_|refine blk_alloc ?_ _));exact aC.out⟩,⟨bl HB.out⟩⟩

end Go.Proofs.Ytjodolkdelffaaa.PFnCards
