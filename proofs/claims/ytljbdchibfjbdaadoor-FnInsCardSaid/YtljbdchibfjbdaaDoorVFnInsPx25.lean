/- A part of the proof of laws.FnIns. No condition beyond what its theorems say. -/
import Derived.Test.YtljbdchibfjbdaaDoorVFnInsPx24
namespace Go.Proofs.YtljbdchibfjbdaaDoor.PFnIns
open Go.RowKit Go.Proofs.YtljbdchibfjbdaaDoorW.PrintWords Go.Proofs.YtljbdchibfjbdaaDoorW.PrintLast Go.Proofs.YtljbdchibfjbdaaDoorW.PrintMore Go.Proofs.YtljbdchibfjbdaaDoor.Tabs
set_option linter.unusedVariables false
set_option linter.unusedSimpArgs false

def Z47.f (k:Nat) (aG aH aI aJ:Int):Option (ByteArray):=(Z21.f k aG).bind fun aA=>(if aA.size+1≤9223372036854775807 then ((Z21.f k aH).bind fun aC=>(if (aA++(⟨#[46]⟩:ByteArray)).size+aC.size≤9223372036854775807 then (if ((aA++(⟨#[46]⟩:ByteArray))++aC).size+1≤9223372036854775807 then ((Z21.f k aI).bind fun aD=>(if (((aA++(⟨#[46]⟩:ByteArray))++aC)++(⟨#[46]⟩:ByteArray)).size+aD.size≤9223372036854775807 then (if ((((aA++(⟨#[46]⟩:ByteArray))++aC)++(⟨#[46]⟩:ByteArray))++aD).size+1≤9223372036854775807 then ((Z21.f k aJ).bind fun aE=>(if (((((aA++(⟨#[46]⟩:ByteArray))++aC)++(⟨#[46]⟩:ByteArray))++aD)++(⟨#[46]⟩:ByteArray)).size+aE.size≤9223372036854775807 then (some ((((((aA++(⟨#[46]⟩:ByteArray))++aC)++(⟨#[46]⟩:ByteArray))++aD)++(⟨#[46]⟩:ByteArray))++aE)) else (none))) else (none)) else (none))) else (none)) else (none))) else (none))
theorem Z47.mono:∀ a0 a1 a2 a3 k,LeO (Z47.f k a0 a1 a2 a3) (Z47.f (k+1) a0 a1 a2 a3):=by
 intro a0 a1 a2 a3 k;unfold Z47.f
 repeat' (with_reducible first|apply Z21.mono|exact lR _|refine lI ?_ ?_|refine lB ?_ fun _=>?_)
def Z47.T1:Bool × List (List Nat × List Nat):=(true,[([],[]),([0],[0]),([1],[1]),([2],[2]),([],[]),([4],[4]),([5,2],[5]),([3,6],[3,6]),([7],[7]),([],[]),([9],[9]),([10,6],[10]),([8,11],[8,11]),([12],[12]),([],[]),([14],[14]),([15,11],[15]),([13,16],[13,16]),([17,16,0,1,2,3,4,5,6,7,8,9,10,11,12,13,14,15,16,17],[17])])
def Z47.B1:List Nat:=[0,1,3,7,0,16,55,127,255,0,512,1655,4095,8191,0,16384,52855,131071,262143]
theorem Z47.tab1:rtab .any (opsOf Tryd.f85 1)=Z47.T1:=by kernel_rfl
theorem Z47.bits1:waitsOk Z47.T1.2 Z47.B1=true:=by kernel_rfl
set_option maxHeartbeats 60000000 in
set_option maxRecDepth 100000 in
theorem Z47.calls (k:Nat) (aH aI aJ aK:Int) (r:ByteArray) (w:World) (hT:TabI w) (h:Z47.f k aH aI aJ aK=some r) :
  Calls Tryd.prog 85 #[.agg #[aH,aI,aJ,aK]] w fun e w'=>e=.returned (.string r)∧Below w.heap.size w w':=by
 have bM:=Tryd.underlying25;have HB:=aM (Below.refl w.heap.size w);have H:((Z21.f k aH).bind fun aC=>(if aC.size+1≤9223372036854775807 then ((Z21.f k aI).bind fun aD=>(if (aC++(⟨#[46]⟩:ByteArray)).size+aD.size≤9223372036854775807 then (if ((aC++(⟨#[46]⟩:ByteArray))++aD).size+1≤9223372036854775807 then ((Z21.f k aJ).bind fun aE=>(if (((aC++(⟨#[46]⟩:ByteArray))++aD)++(⟨#[46]⟩:ByteArray)).size+aE.size≤9223372036854775807 then (if ((((aC++(⟨#[46]⟩:ByteArray))++aD)++(⟨#[46]⟩:ByteArray))++aE).size+1≤9223372036854775807 then ((Z21.f k aK).bind fun aG=>(if (((((aC++(⟨#[46]⟩:ByteArray))++aD)++(⟨#[46]⟩:ByteArray))++aE)++(⟨#[46]⟩:ByteArray)).size+aG.size≤9223372036854775807 then (some ((((((aC++(⟨#[46]⟩:ByteArray))++aD)++(⟨#[46]⟩:ByteArray))++aE)++(⟨#[46]⟩:ByteArray))++aG)) else (none))) else (none)) else (none))) else (none)) else (none))) else (none)))=some r:=h
 clear h;obtain ⟨aC,aW,H⟩:=hB H;have A2:=aM aW;clear aW
 by_cases c3:aC.size+1≤9223372036854775807
 case neg =>
  rw [if_neg c3] at H
  exact absurd H (by simp)
 rw [if_pos c3] at H
 have bN:=eq_true c3;have bO:decide (aC.size+1≤9223372036854775807)=true:=decide_eq_true c3
 try have bP:(9223372036854775807<aC.size+1)=False:=eq_false (Nat.not_lt.2 c3)
 obtain ⟨aD,aX,H⟩:=hB H;have A4:=aM aX;clear aX
 by_cases c5:(aC++(⟨#[46]⟩:ByteArray)).size+aD.size≤9223372036854775807
 case neg =>
  rw [if_neg c5] at H
  exact absurd H (by simp)
 rw [if_pos c5] at H
 have bQ:=eq_true c5
 try have bT:(9223372036854775807<aC.size+1+aD.size)=False:=eq_false (by have h_:=c5;have z0_:(⟨#[46]⟩:ByteArray).size=1:=rfl;simp only [ByteArray.size_append,z0_] at h_;omega)
 have bU:decide ((aC++(⟨#[46]⟩:ByteArray)).size+aD.size≤9223372036854775807)=true:=decide_eq_true c5
 try have bV:(9223372036854775807<(aC++(⟨#[46]⟩:ByteArray)).size+aD.size)=False:=eq_false (Nat.not_lt.2 c5)
 by_cases c6:((aC++(⟨#[46]⟩:ByteArray))++aD).size+1≤9223372036854775807
 case neg =>
  rw [if_neg c6] at H
  exact absurd H (by simp)
 rw [if_pos c6] at H
 have bW:=eq_true c6
 try have bX:(9223372036854775807<aC.size+1+aD.size+1)=False:=eq_false (by have h_:=c6;have z0_:(⟨#[46]⟩:ByteArray).size=1:=rfl;simp only [ByteArray.size_append,z0_] at h_;omega)
 have bY:decide (((aC++(⟨#[46]⟩:ByteArray))++aD).size+1≤9223372036854775807)=true:=decide_eq_true c6
 try have bZ:(9223372036854775807<((aC++(⟨#[46]⟩:ByteArray))++aD).size+1)=False:=eq_false (Nat.not_lt.2 c6)
 obtain ⟨aE,bA,H⟩:=hB H;have A7:=aM bA;clear bA
 by_cases c8:(((aC++(⟨#[46]⟩:ByteArray))++aD)++(⟨#[46]⟩:ByteArray)).size+aE.size≤9223372036854775807
 case neg =>
  rw [if_neg c8] at H
  exact absurd H (by simp)
 rw [if_pos c8] at H
 have cA:=eq_true c8
 try have cC:(9223372036854775807<aC.size+1+aD.size+1+aE.size)=False:=eq_false (by have h_:=c8;have z0_:(⟨#[46]⟩:ByteArray).size=1:=rfl;simp only [ByteArray.size_append,z0_] at h_;omega)
 have cD:decide ((((aC++(⟨#[46]⟩:ByteArray))++aD)++(⟨#[46]⟩:ByteArray)).size+aE.size≤9223372036854775807)=true:=decide_eq_true c8
 try have cE:(9223372036854775807<(((aC++(⟨#[46]⟩:ByteArray))++aD)++(⟨#[46]⟩:ByteArray)).size+aE.size)=False:=eq_false (Nat.not_lt.2 c8)
 by_cases c9:((((aC++(⟨#[46]⟩:ByteArray))++aD)++(⟨#[46]⟩:ByteArray))++aE).size+1≤9223372036854775807
 case neg =>
  rw [if_neg c9] at H
  exact absurd H (by simp)
 rw [if_pos c9] at H
 have cG:=eq_true c9
 try have cH:(9223372036854775807<aC.size+1+aD.size+1+aE.size+1)=False:=eq_false (by have h_:=c9;have z0_:(⟨#[46]⟩:ByteArray).size=1:=rfl;simp only [ByteArray.size_append,z0_] at h_;omega)
 have cK:decide (((((aC++(⟨#[46]⟩:ByteArray))++aD)++(⟨#[46]⟩:ByteArray))++aE).size+1≤9223372036854775807)=true:=decide_eq_true c9
 try have cL:(9223372036854775807<((((aC++(⟨#[46]⟩:ByteArray))++aD)++(⟨#[46]⟩:ByteArray))++aE).size+1)=False:=eq_false (Nat.not_lt.2 c9)
 obtain ⟨aG,aT,H⟩:=hB H;have bD:=aM aT;clear aT
 by_cases aQ:(((((aC++(⟨#[46]⟩:ByteArray))++aD)++(⟨#[46]⟩:ByteArray))++aE)++(⟨#[46]⟩:ByteArray)).size+aG.size≤9223372036854775807
 case neg =>
  rw [if_neg aQ] at H
  exact absurd H (by simp)
 rw [if_pos aQ] at H
 have bI:=eq_true aQ
 try have bJ:(9223372036854775807<aC.size+1+aD.size+1+aE.size+1+aG.size)=False:=eq_false (by have h_:=aQ;have z0_:(⟨#[46]⟩:ByteArray).size=1:=rfl;simp only [ByteArray.size_append,z0_] at h_;omega)
 have bK:decide ((((((aC++(⟨#[46]⟩:ByteArray))++aD)++(⟨#[46]⟩:ByteArray))++aE)++(⟨#[46]⟩:ByteArray)).size+aG.size≤9223372036854775807)=true:=decide_eq_true aQ
 try have bL:(9223372036854775807<(((((aC++(⟨#[46]⟩:ByteArray))++aD)++(⟨#[46]⟩:ByteArray))++aE)++(⟨#[46]⟩:ByteArray)).size+aG.size)=False:=eq_false (Nat.not_lt.2 aQ)
 obtain rfl:=Option.some.inj H;go_enter Tryd.func85,Tryd.ntmps85
 try go_wp2_with (((with_reducible refine gD (N:=1) rfl ?_);refine bE (N:=1) (cs:=#[aH,aI,aJ,aK]) (t:=25) ?_;intro aV hg bG hbox hb;have aA:=aM (hbox);have bH:=gF hg HB;have aN:=gF hg HB;replace HB:=rS HB hb;clear hb hbox hg))
 replace aA:=aM (blk_drew aA.out);replace HB:=aM (below_drew1 HB.out);refine start_ (n:=19) (S:=fun w'=>cS4 w' aV (.int .i64 aH) (.int .i64 aI) (.int .i64 aJ) (.int .i64 aK)) (ds:=[]) (dn 19 0) (by kernel_rfl) rfl rfl ⟨cI aA.out 0,cI aA.out 1,cI aA.out 2,cI aA.out 3⟩ (fun hHeld=>?_);refine with_tabW Z47.tab1 Z47.bits1 (fun HT_ HW_=>?_)
 generalize bG.drew=cN at aA HB hHeld ⊢
 refine nY (N:=some 3) HT_ ?_;refine pZ 4 7 (bv 19 17) HT_ ?_;refine pZ 9 12 (bv 19 529) HT_ ?_;refine pZ 14 17 (bv 19 16913) HT_ ?_;refine aZ 1 4 (bv 19 16915) HT_ HW_ hHeld ?_;refine aZ 5 8 (bv 19 16947) HT_ HW_ hHeld ?_;refine aZ 10 13 (bv 19 17971) HT_ HW_ hHeld ?_;refine aZ 15 18 (bv 19 50739) HT_ HW_ hHeld ?_;refine one_ (i:=2) (N:=some 5) (bv 19 50743) rfl rfl (one_of HT_.out (by kernel_rfl)) (by decide) (fun K hK=>?_)
 refine goes_ Tryd.func34 (by kernel_rfl) rfl #[aH] (by rfl) rfl rfl xR ?_
 with_reducible refine (Z21.calls k aH aC _ (tabI_below hT ?hbt_) A2.out).mono ?_
 case hbt_=>repeat ((with_reducible exact HB.out))
 rintro e cO ⟨rfl,hb⟩;refine ⟨_,rfl,?_⟩;replace aA:=rB aA hb;replace HB:=rS HB hb
 (try clear hb)
 refine hK.out _ _ ⟨cI aA.out 0,cI aA.out 1,cI aA.out 2,cI aA.out 3⟩ (fun hHeld=>?_)
 clear hK K;refine norm_ (a':=?_) ?_ ?_;rotate_left
 ·show Act.put _ (some 5) _=_
  simp only [Act.put,sA,sZ,sS,i64_w,i32_w]
  rfl
 refine pZ 3 6 (bv 19 50751) HT_ ?_;refine one_ (i:=6) (N:=some 9) (bv 19 50815) rfl rfl (one_of HT_.out (by kernel_rfl)) (by decide) (fun K hK=>?_)
 refine goes_ Tryd.func34 (by kernel_rfl) rfl #[aI] (by rfl) rfl rfl xR ?_
 with_reducible refine (Z21.calls k aI aD _ (tabI_below hT ?hbt_) A4.out).mono ?_
 case hbt_=>repeat ((with_reducible exact HB.out))
 rintro e cP ⟨rfl,hb⟩;refine ⟨_,rfl,?_⟩;replace aA:=rB aA hb;replace HB:=rS HB hb
 (try clear hb)
 refine hK.out _ _ ⟨cI aA.out 0,cI aA.out 1,cI aA.out 2,cI aA.out 3⟩ (fun hHeld=>?_)
 clear hK K;refine norm_ (a':=?_) ?_ ?_;rotate_left
 ·show Act.put _ (some 9) _=_
  simp only [Act.put,sA,sZ,sS,i64_w,i32_w]
  rfl
 refine pZ 7 10 (bv 19 50943) HT_ ?_;refine pZ 8 11 (bv 19 51199) HT_ ?_;refine one_ (i:=11) (N:=some 14) (bv 19 53247) rfl rfl (one_of HT_.out (by kernel_rfl)) (by decide) (fun K hK=>?_)
 refine goes_ Tryd.func34 (by kernel_rfl) rfl #[aJ] (by rfl) rfl rfl xR ?_
 with_reducible refine (Z21.calls k aJ aE _ (tabI_below hT ?hbt_) A7.out).mono ?_
 case hbt_=>repeat ((with_reducible exact HB.out))
 rintro e cQ ⟨rfl,hb⟩;refine ⟨_,rfl,?_⟩;replace aA:=rB aA hb;replace HB:=rS HB hb
 (try clear hb)
 refine hK.out _ _ ⟨cI aA.out 0,cI aA.out 1,cI aA.out 2,cI aA.out 3⟩ (fun hHeld=>?_)
 clear hK K;refine norm_ (a':=?_) ?_ ?_;rotate_left
 ·show Act.put _ (some 14) _=_
  simp only [Act.put,sA,sZ,sS,i64_w,i32_w]
  rfl
 refine pZ 12 15 (bv 19 57343) HT_ ?_;refine pZ 13 16 (bv 19 65535) HT_ ?_;refine one_ (i:=16) (N:=some 19) (bv 19 131071) rfl rfl (one_of HT_.out (by kernel_rfl)) (by decide) (fun K hK=>?_)
 refine goes_ Tryd.func34 (by kernel_rfl) rfl #[aK] (by rfl) rfl rfl xR ?_
 with_reducible refine (Z21.calls k aK aG _ (tabI_below hT ?hbt_) bD.out).mono ?_
 case hbt_=>repeat ((with_reducible exact HB.out))
 rintro e cR ⟨rfl,hb⟩;refine ⟨_,rfl,?_⟩;replace aA:=rB aA hb;replace HB:=rS HB hb
 (try clear hb)
 refine hK.out _ _ ⟨cI aA.out 0,cI aA.out 1,cI aA.out 2,cI aA.out 3⟩ (fun hHeld=>?_)
 clear hK K;refine norm_ (a':=?_) ?_ ?_;rotate_left
 ·show Act.put _ (some 19) _=_
  simp only [Act.put,sA,sZ,sS,i64_w,i32_w]
  rfl
 refine pZ 17 20 (bv 19 262143) HT_ ?_;refine pZ 18 2 (bv 19 524287) HT_ ?_;refine done_ (done_of HT_.out (by kernel_rfl)) ?_
 try go_wp2
 go_ret
 exact ⟨xW,bl HB.out⟩

def Z43.f (k:Nat) (a0 aE aG aH aI a2:Int):Option (ByteArray):=(Z21.f k a0).bind fun aA=>(if 6+aA.size≤9223372036854775807 then (if ((⟨#[99,108,97,105,109,32]⟩:ByteArray)++aA).size+1≤9223372036854775807 then ((Z47.f k aE aG aH aI).bind fun aC=>(if (((⟨#[99,108,97,105,109,32]⟩:ByteArray)++aA)++(⟨#[32]⟩:ByteArray)).size+aC.size≤9223372036854775807 then (if ((((⟨#[99,108,97,105,109,32]⟩:ByteArray)++aA)++(⟨#[32]⟩:ByteArray))++aC).size+1≤9223372036854775807 then ((Z21.f k a2).bind fun aD=>(if (((((⟨#[99,108,97,105,109,32]⟩:ByteArray)++aA)++(⟨#[32]⟩:ByteArray))++aC)++(⟨#[32]⟩:ByteArray)).size+aD.size≤9223372036854775807 then (some ((((((⟨#[99,108,97,105,109,32]⟩:ByteArray)++aA)++(⟨#[32]⟩:ByteArray))++aC)++(⟨#[32]⟩:ByteArray))++aD)) else (none))) else (none)) else (none))) else (none)) else (none))
theorem Z43.mono:∀ a0 a1 a2 a3 a4 a5 k,LeO (Z43.f k a0 a1 a2 a3 a4 a5) (Z43.f (k+1) a0 a1 a2 a3 a4 a5):=by
 intro a0 a1 a2 a3 a4 a5 k;unfold Z43.f
 repeat' (with_reducible first|apply Z21.mono|apply Z47.mono|exact lR _|refine lI ?_ ?_|refine lB ?_ fun _=>?_)
def Z43.T1:Bool × List (List Nat × List Nat):=(true,[([],[]),([0],[0]),([1],[1]),([2],[2]),([],[]),([4,1],[4]),([3,5],[3,5]),([6],[6]),([],[]),([8,5],[8]),([7,9],[7,9]),([10,9,0,1,2,3,4,5,6,7,8,9,10],[10])])
def Z43.B1:List Nat:=[0,1,3,7,0,19,63,127,0,307,1023,2047]
theorem Z43.tab1:rtab .any (opsOf Tryd.f64 1)=Z43.T1:=by kernel_rfl
theorem Z43.bits1:waitsOk Z43.T1.2 Z43.B1=true:=by kernel_rfl
set_option maxHeartbeats 60000000 in
set_option maxRecDepth 100000 in
theorem Z43.calls (k:Nat) (a0 aG aH aI aJ a2:Int) (r:ByteArray) (w:World) (hT:TabI w) (h:Z43.f k a0 aG aH aI aJ a2=some r) :
  Calls Tryd.prog 64 #[a0,.agg #[aG,aH,aI,aJ],a2] w fun e w'=>e=.returned (.string r)∧Below w.heap.size w w':=by
 have bK:=Tryd.underlying25;have HB:=aM (Below.refl w.heap.size w);have H:((Z21.f k a0).bind fun aC=>(if 6+aC.size≤9223372036854775807 then (if ((⟨#[99,108,97,105,109,32]⟩:ByteArray)++aC).size+1≤9223372036854775807 then ((Z47.f k aG aH aI aJ).bind fun aD=>(if (((⟨#[99,108,97,105,109,32]⟩:ByteArray)++aC)++(⟨#[32]⟩:ByteArray)).size+aD.size≤9223372036854775807 then (if ((((⟨#[99,108,97,105,109,32]⟩:ByteArray)++aC)++(⟨#[32]⟩:ByteArray))++aD).size+1≤9223372036854775807 then ((Z21.f k a2).bind fun aE=>(if (((((⟨#[99,108,97,105,109,32]⟩:ByteArray)++aC)++(⟨#[32]⟩:ByteArray))++aD)++(⟨#[32]⟩:ByteArray)).size+aE.size≤9223372036854775807 then (some ((((((⟨#[99,108,97,105,109,32]⟩:ByteArray)++aC)++(⟨#[32]⟩:ByteArray))++aD)++(⟨#[32]⟩:ByteArray))++aE)) else (none))) else (none)) else (none))) else (none)) else (none)))=some r:=h
 clear h;obtain ⟨aC,aV,H⟩:=hB H;have A4:=aM aV;clear aV
 by_cases c5:6+aC.size≤9223372036854775807
 case neg =>
  rw [if_neg c5] at H
  exact absurd H (by simp)
 rw [if_pos c5] at H
 have bL:=eq_true c5;have bM:decide (6+aC.size≤9223372036854775807)=true:=decide_eq_true c5
 try have bN:(9223372036854775807<6+aC.size)=False:=eq_false (Nat.not_lt.2 c5)
 by_cases c6:((⟨#[99,108,97,105,109,32]⟩:ByteArray)++aC).size+1≤9223372036854775807
 case neg =>
  rw [if_neg c6] at H
  exact absurd H (by simp)
 rw [if_pos c6] at H
 have bO:=eq_true c6
 try have bP:(9223372036854775807<6+aC.size+1)=False:=eq_false (by have h_:=c6;have z0_:(⟨#[99,108,97,105,109,32]⟩:ByteArray).size=6:=rfl;simp only [ByteArray.size_append,z0_] at h_;omega)
 have bQ:decide (((⟨#[99,108,97,105,109,32]⟩:ByteArray)++aC).size+1≤9223372036854775807)=true:=decide_eq_true c6
 try have bT:(9223372036854775807<((⟨#[99,108,97,105,109,32]⟩:ByteArray)++aC).size+1)=False:=eq_false (Nat.not_lt.2 c6)
 obtain ⟨aD,aW,H⟩:=hB H;have A7:=aM aW;clear aW
 by_cases c8:(((⟨#[99,108,97,105,109,32]⟩:ByteArray)++aC)++(⟨#[32]⟩:ByteArray)).size+aD.size≤9223372036854775807
 case neg =>
  rw [if_neg c8] at H
  exact absurd H (by simp)
 rw [if_pos c8] at H
 have bU:=eq_true c8
 try have bV:(9223372036854775807<6+aC.size+1+aD.size)=False:=eq_false (by have h_:=c8;have z0_:(⟨#[99,108,97,105,109,32]⟩:ByteArray).size=6:=rfl;have z1_:(⟨#[32]⟩:ByteArray).size=1:=rfl;simp only [ByteArray.size_append,z0_,z1_] at h_;omega)
 have bW:decide ((((⟨#[99,108,97,105,109,32]⟩:ByteArray)++aC)++(⟨#[32]⟩:ByteArray)).size+aD.size≤9223372036854775807)=true:=decide_eq_true c8
 try have bX:(9223372036854775807<(((⟨#[99,108,97,105,109,32]⟩:ByteArray)++aC)++(⟨#[32]⟩:ByteArray)).size+aD.size)=False:=eq_false (Nat.not_lt.2 c8)
 by_cases c9:((((⟨#[99,108,97,105,109,32]⟩:ByteArray)++aC)++(⟨#[32]⟩:ByteArray))++aD).size+1≤9223372036854775807
 case neg =>
  rw [if_neg c9] at H
  exact absurd H (by simp)
 rw [if_pos c9] at H
 have bY:=eq_true c9
 try have bZ:(9223372036854775807<6+aC.size+1+aD.size+1)=False:=eq_false (by have h_:=c9;have z0_:(⟨#[99,108,97,105,109,32]⟩:ByteArray).size=6:=rfl;have z1_:(⟨#[32]⟩:ByteArray).size=1:=rfl;simp only [ByteArray.size_append,z0_,z1_] at h_;omega)
 have cA:decide (((((⟨#[99,108,97,105,109,32]⟩:ByteArray)++aC)++(⟨#[32]⟩:ByteArray))++aD).size+1≤9223372036854775807)=true:=decide_eq_true c9
 try have cC:(9223372036854775807<((((⟨#[99,108,97,105,109,32]⟩:ByteArray)++aC)++(⟨#[32]⟩:ByteArray))++aD).size+1)=False:=eq_false (Nat.not_lt.2 c9)
 obtain ⟨aE,aQ,H⟩:=hB H;have aX:=aM aQ;clear aQ
 by_cases aN:(((((⟨#[99,108,97,105,109,32]⟩:ByteArray)++aC)++(⟨#[32]⟩:ByteArray))++aD)++(⟨#[32]⟩:ByteArray)).size+aE.size≤9223372036854775807
 case neg =>
  rw [if_neg aN] at H
  exact absurd H (by simp)
 rw [if_pos aN] at H
 have bG:=eq_true aN
 try have bH:(9223372036854775807<6+aC.size+1+aD.size+1+aE.size)=False:=eq_false (by have h_:=aN;have z0_:(⟨#[99,108,97,105,109,32]⟩:ByteArray).size=6:=rfl;have z1_:(⟨#[32]⟩:ByteArray).size=1:=rfl;simp only [ByteArray.size_append,z0_,z1_] at h_;omega)
 have bI:decide ((((((⟨#[99,108,97,105,109,32]⟩:ByteArray)++aC)++(⟨#[32]⟩:ByteArray))++aD)++(⟨#[32]⟩:ByteArray)).size+aE.size≤9223372036854775807)=true:=decide_eq_true aN
 try have bJ:(9223372036854775807<(((((⟨#[99,108,97,105,109,32]⟩:ByteArray)++aC)++(⟨#[32]⟩:ByteArray))++aD)++(⟨#[32]⟩:ByteArray)).size+aE.size)=False:=eq_false (Nat.not_lt.2 aN)
 obtain rfl:=Option.some.inj H;go_enter Tryd.func64,Tryd.ntmps64
 try go_wp2_with (((with_reducible refine gD (N:=4) rfl ?_);refine bE (N:=4) (cs:=#[aG,aH,aI,aJ]) (t:=25) ?_;intro aT hg bA hbox hb;have aA:=aM (hbox);have bD:=gF hg HB;have aK:=gF hg HB;replace HB:=rS HB hb;clear hb hbox hg))
 replace aA:=aM (blk_drew aA.out);replace HB:=aM (below_drew1 HB.out);refine start_ (n:=12) (S:=fun w'=>cS4 w' aT (.int .i64 aG) (.int .i64 aH) (.int .i64 aI) (.int .i64 aJ)) (ds:=[]) (dn 12 0) (by kernel_rfl) rfl rfl ⟨cI aA.out 0,cI aA.out 1,cI aA.out 2,cI aA.out 3⟩ (fun hHeld=>?_);refine with_tabW Z43.tab1 Z43.bits1 (fun HT_ HW_=>?_)
 generalize bA.drew=cD at aA HB hHeld ⊢
 refine nY (N:=some 7) HT_ ?_;refine pZ 8 15 (bv 12 257) HT_ ?_;refine aZ 4 11 (bv 12 273) HT_ HW_ hHeld ?_;refine one_ (i:=1) (N:=some 8) (bv 12 275) rfl rfl (one_of HT_.out (by kernel_rfl)) (by decide) (fun K hK=>?_)
 refine goes_ Tryd.func34 (by kernel_rfl) rfl #[a0] (by rfl) rfl rfl xR ?_
 with_reducible refine (Z21.calls k a0 aC _ (tabI_below hT ?hbt_) A4.out).mono ?_
 case hbt_=>repeat ((with_reducible exact HB.out))
 rintro e cE ⟨rfl,hb⟩;refine ⟨_,rfl,?_⟩;replace aA:=rB aA hb;replace HB:=rS HB hb
 (try clear hb)
 refine hK.out _ _ ⟨cI aA.out 0,cI aA.out 1,cI aA.out 2,cI aA.out 3⟩ (fun hHeld=>?_)
 clear hK K;refine norm_ (a':=?_) ?_ ?_;rotate_left
 ·show Act.put _ (some 8) _=_
  simp only [Act.put,sA,sZ,sS,i64_w,i32_w]
  rfl
 refine pZ 2 9 (bv 12 279) HT_ ?_;refine pZ 3 10 (bv 12 287) HT_ ?_;refine one_ (i:=5) (N:=some 12) (bv 12 319) rfl rfl (one_of HT_.out (by kernel_rfl)) (by decide) (fun K hK=>?_)
 refine goes_ Tryd.func85 (by kernel_rfl) rfl #[.agg #[aG,aH,aI,aJ]] (by rfl) rfl rfl xR ?_
 with_reducible refine (Z47.calls k aG aH aI aJ aD _ (tabI_below hT ?hbt_) A7.out).mono ?_
 case hbt_=>repeat ((with_reducible exact HB.out))
 rintro e cG ⟨rfl,hb⟩;refine ⟨_,rfl,?_⟩;replace aA:=rB aA hb;replace HB:=rS HB hb
 (try clear hb)
 refine hK.out _ _ ⟨cI aA.out 0,cI aA.out 1,cI aA.out 2,cI aA.out 3⟩ (fun hHeld=>?_)
 clear hK K;refine norm_ (a':=?_) ?_ ?_;rotate_left
 ·show Act.put _ (some 12) _=_
  simp only [Act.put,sA,sZ,sS,i64_w,i32_w]
  rfl
 refine pZ 6 13 (bv 12 383) HT_ ?_;refine pZ 7 14 (bv 12 511) HT_ ?_;refine one_ (i:=9) (N:=some 16) (bv 12 1023) rfl rfl (one_of HT_.out (by kernel_rfl)) (by decide) (fun K hK=>?_)
 refine goes_ Tryd.func34 (by kernel_rfl) rfl #[a2] (by rfl) rfl rfl xR ?_
 with_reducible refine (Z21.calls k a2 aE _ (tabI_below hT ?hbt_) aX.out).mono ?_
 case hbt_=>repeat ((with_reducible exact HB.out))
 rintro e cH ⟨rfl,hb⟩;refine ⟨_,rfl,?_⟩;replace aA:=rB aA hb;replace HB:=rS HB hb
 (try clear hb)
 refine hK.out _ _ ⟨cI aA.out 0,cI aA.out 1,cI aA.out 2,cI aA.out 3⟩ (fun hHeld=>?_)
 clear hK K;refine norm_ (a':=?_) ?_ ?_;rotate_left
 ·show Act.put _ (some 16) _=_
  simp only [Act.put,sA,sZ,sS,i64_w,i32_w]
  rfl
 refine pZ 10 17 (bv 12 2047) HT_ ?_;refine pZ 11 6 (bv 12 4095) HT_ ?_;refine done_ (done_of HT_.out (by kernel_rfl)) ?_
 try go_wp2
 go_ret
 exact ⟨xW,bl HB.out⟩

def Z64.f (k:Nat) (aD aE aH aI aJ aK aN:Int) (aQ:Bool):Option (ByteArray):=if aD=1 then ((Z43.f k aE aH aI aJ aK aN).bind fun aG=>(some aG)) else (if aD=2 then (some (⟨#[116,105,99,107]⟩:ByteArray)) else (if aD=3 then (if aQ=true then ((Z21.f k aE).bind fun aA=>(if 5+aA.size≤9223372036854775807 then (if ((⟨#[108,105,110,107,32]⟩:ByteArray)++aA).size+3≤9223372036854775807 then (some (((⟨#[108,105,110,107,32]⟩:ByteArray)++aA)++(⟨#[32,117,112]⟩:ByteArray))) else (none)) else (none))) else ((Z21.f k aE).bind fun aC=>(if 5+aC.size≤9223372036854775807 then (if ((⟨#[108,105,110,107,32]⟩:ByteArray)++aC).size+5≤9223372036854775807 then (some (((⟨#[108,105,110,107,32]⟩:ByteArray)++aC)++(⟨#[32,100,111,119,110]⟩:ByteArray))) else (none)) else (none)))) else (some (⟨#[110,111,110,101]⟩:ByteArray))))
theorem Z64.mono:∀ a0 a1 a2 a3 a4 a5 a6 a7 k,LeO (Z64.f k a0 a1 a2 a3 a4 a5 a6 a7) (Z64.f (k+1) a0 a1 a2 a3 a4 a5 a6 a7):=by
 intro a0 a1 a2 a3 a4 a5 a6 a7 k;unfold Z64.f
 repeat' (with_reducible first|apply Z21.mono|apply Z43.mono|exact lR _|refine lI ?_ ?_|refine lB ?_ fun _=>?_)
set_option maxHeartbeats 60000000 in
set_option maxRecDepth 100000 in
theorem Z64.calls (k:Nat) (aA aD aI aJ aK aN aQ:Int) (aT:Bool) (r:ByteArray) (w:World) (hT:TabI w) (h:Z64.f k aA aD aI aJ aK aN aQ aT=some r) :
  Calls Tryd.prog 20 #[.agg #[aA,aD,aI,aJ,aK,aN,aQ,aT]] w fun e w'=>e=.returned (.string r)∧Below w.heap.size w w':=by
 have cT:=Tryd.underlying27;have cU:=Tryd.underlying25;have HB:=aM (Below.refl w.heap.size w);have H:(if aA=1 then ((Z43.f k aD aI aJ aK aN aQ).bind fun bG=>(some bG)) else (if aA=2 then (some (⟨#[116,105,99,107]⟩:ByteArray)) else (if aA=3 then (if aT=true then ((Z21.f k aD).bind fun aE=>(if 5+aE.size≤9223372036854775807 then (if ((⟨#[108,105,110,107,32]⟩:ByteArray)++aE).size+3≤9223372036854775807 then (some (((⟨#[108,105,110,107,32]⟩:ByteArray)++aE)++(⟨#[32,117,112]⟩:ByteArray))) else (none)) else (none))) else ((Z21.f k aD).bind fun aG=>(if 5+aG.size≤9223372036854775807 then (if ((⟨#[108,105,110,107,32]⟩:ByteArray)++aG).size+5≤9223372036854775807 then (some (((⟨#[108,105,110,107,32]⟩:ByteArray)++aG)++(⟨#[32,100,111,119,110]⟩:ByteArray))) else (none)) else (none)))) else (some (⟨#[110,111,110,101]⟩:ByteArray)))))=some r:=h
 clear h
 by_cases c2:aA=1
 case pos =>
  rw [if_pos c2] at H
  have bP:(aA == 1)=true:=beq_iff_eq.mpr c2;have bQ:(aA != 1)=false:=bne_eq_false_iff_eq.mpr c2;clear c2;obtain ⟨bG,bO,H⟩:=hB H;have A3:=aM bO;clear bO;obtain rfl:=Option.some.inj H;go_enter Tryd.func20,Tryd.ntmps20
  go_wp2_with (first|((with_reducible refine gD (N:=1) rfl ?_);refine bE (N:=1) (cs:=#[aA,aD,aI,aJ,aK,aN,aQ,aT]) (t:=27) ?_;intro aV hg w4 hbox hb;have aC:=aM (hbox);have aW:=gF hg HB;have aH:=gF hg HB;replace HB:=rS HB hb;clear hb hbox hg;have cV:=cA8 aC.out)|((with_reducible refine gC (f:=64) rfl ?_);refine goesL_ (some 13) rfl rfl Tryd.func64 (by kernel_rfl) rfl #[aD,.agg #[aI,aJ,aK,aN],aQ] rfl xR ?_;(with_reducible refine (Z43.calls k aD aI aJ aK aN aQ bG _ (tabI_below hT ?hbt_) A3.out).mono ?_);(case hbt_=>repeat ((with_reducible exact HB.out)));rintro e w6 ⟨rfl,hb⟩;refine ⟨_,rfl,?_⟩;replace aC:=rB aC hb;replace HB:=rS HB hb;(try clear hb)))
  go_ret
  exact ⟨xW,bl HB.out⟩
 rw [if_neg c2] at H
 have bP:(aA == 1)=false:=beq_eq_false_iff_ne.mpr c2;have bQ:(aA != 1)=true:=bne_iff_ne.mpr c2
 by_cases c7:aA=2
 case pos =>
  rw [if_pos c7] at H
  have bT:(aA == 2)=true:=beq_iff_eq.mpr c7;have bU:(aA != 2)=false:=bne_eq_false_iff_eq.mpr c7;clear c7;obtain rfl:=Option.some.inj H;go_enter Tryd.func20,Tryd.ntmps20
  go_wp2_with (((with_reducible refine gD (N:=1) rfl ?_);refine bE (N:=1) (cs:=#[aA,aD,aI,aJ,aK,aN,aQ,aT]) (t:=27) ?_;intro aV hg w8 hbox hb;have aC:=aM (hbox);have aW:=gF hg HB;have aH:=gF hg HB;replace HB:=rS HB hb;clear hb hbox hg;have cW:=cA8 aC.out))
  go_ret
  exact ⟨xW,bl HB.out⟩
 rw [if_neg c7] at H
 have bT:(aA == 2)=false:=beq_eq_false_iff_ne.mpr c7;have bU:(aA != 2)=true:=bne_iff_ne.mpr c7
 by_cases aX:aA=3
 case neg =>
  rw [if_neg aX] at H
  have bM:(aA == 3)=false:=beq_eq_false_iff_ne.mpr aX;have bN:(aA != 3)=true:=bne_iff_ne.mpr aX;obtain rfl:=Option.some.inj H;go_enter Tryd.func20,Tryd.ntmps20
  go_wp2_with (((with_reducible refine gD (N:=1) rfl ?_);refine bE (N:=1) (cs:=#[aA,aD,aI,aJ,aK,aN,aQ,aT]) (t:=27) ?_;intro aV hg cX hbox hb;have aC:=aM (hbox);have aW:=gF hg HB;have aH:=gF hg HB;replace HB:=rS HB hb;clear hb hbox hg;have bX:=cA8 aC.out))
  go_ret
  exact ⟨xW,bl HB.out⟩
 rw [if_pos aX] at H
 have bM:(aA == 3)=true:=beq_iff_eq.mpr aX;have bN:(aA != 3)=false:=bne_eq_false_iff_eq.mpr aX;clear aX
 by_cases bJ:aT=true
 case pos =>
  subst bJ;replace H:=hP H rfl;obtain ⟨aE,bK,H⟩:=hB H;have bV:=aM bK;clear bK
  by_cases bH:5+aE.size≤9223372036854775807
  case neg =>
   rw [if_neg bH] at H
   exact absurd H (by simp)
  rw [if_pos bH] at H
  have bY:=eq_true bH;have bZ:decide (5+aE.size≤9223372036854775807)=true:=decide_eq_true bH
  try have cA:(9223372036854775807<5+aE.size)=False:=eq_false (Nat.not_lt.2 bH)
  by_cases bA:((⟨#[108,105,110,107,32]⟩:ByteArray)++aE).size+3≤9223372036854775807
  case neg =>
   rw [if_neg bA] at H
   exact absurd H (by simp)
  rw [if_pos bA] at H
  have cC:=eq_true bA
  try have cD:(9223372036854775807<5+aE.size+3)=False:=eq_false (by have h_:=bA;have z0_:(⟨#[108,105,110,107,32]⟩:ByteArray).size=5:=rfl;simp only [ByteArray.size_append,z0_] at h_;omega)
  have cE:decide (((⟨#[108,105,110,107,32]⟩:ByteArray)++aE).size+3≤9223372036854775807)=true:=decide_eq_true bA
  try have cG:(9223372036854775807<((⟨#[108,105,110,107,32]⟩:ByteArray)++aE).size+3)=False:=eq_false (Nat.not_lt.2 bA)
  obtain rfl:=Option.some.inj H;go_enter Tryd.func20,Tryd.ntmps20
  go_wp2_with (first|((with_reducible refine gD (N:=1) rfl ?_);refine bE (N:=1) (cs:=#[aA,aD,aI,aJ,aK,aN,aQ,.bool true]) (t:=27) ?_;intro aV hg cY hbox hb;have aC:=aM (hbox);have aW:=gF hg HB;have aH:=gF hg HB;replace HB:=rS HB hb;clear hb hbox hg;have cH:=cA8 aC.out)|((with_reducible refine gC (f:=34) rfl ?_);refine goesL_ (some 22) rfl rfl Tryd.func34 (by kernel_rfl) rfl #[aD] rfl xR ?_;(with_reducible refine (Z21.calls k aD aE _ (tabI_below hT ?hbt_) bV.out).mono ?_);(case hbt_=>repeat ((with_reducible exact HB.out)));rintro e dA ⟨rfl,hb⟩;refine ⟨_,rfl,?_⟩;replace aC:=rB aC hb;replace HB:=rS HB hb;(try clear hb)))
  go_ret
  exact ⟨xW,bl HB.out⟩
 replace bJ:=Bool.eq_false_iff.mpr bJ;subst bJ;replace H:=hF H;obtain ⟨aG,bL,H⟩:=hB H;have bW:=aM bL;clear bL
 by_cases bI:5+aG.size≤9223372036854775807
 case neg =>
  rw [if_neg bI] at H
  exact absurd H (by simp)
 rw [if_pos bI] at H
 have cK:=eq_true bI;have cL:decide (5+aG.size≤9223372036854775807)=true:=decide_eq_true bI
 try have cN:(9223372036854775807<5+aG.size)=False:=eq_false (Nat.not_lt.2 bI)
 by_cases bD:((⟨#[108,105,110,107,32]⟩:ByteArray)++aG).size+5≤9223372036854775807
 case neg =>
  rw [if_neg bD] at H
  exact absurd H (by simp)
 rw [if_pos bD] at H
 have cO:=eq_true bD
 try have cP:(9223372036854775807<5+aG.size+5)=False:=eq_false (by have h_:=bD;have z0_:(⟨#[108,105,110,107,32]⟩:ByteArray).size=5:=rfl;simp only [ByteArray.size_append,z0_] at h_;omega)
 have cQ:decide (((⟨#[108,105,110,107,32]⟩:ByteArray)++aG).size+5≤9223372036854775807)=true:=decide_eq_true bD
 try have cR:(9223372036854775807<((⟨#[108,105,110,107,32]⟩:ByteArray)++aG).size+5)=False:=eq_false (Nat.not_lt.2 bD)
 obtain rfl:=Option.some.inj H;go_enter Tryd.func20,Tryd.ntmps20
 go_wp2_with (first|((with_reducible refine gD (N:=1) rfl ?_);refine bE (N:=1) (cs:=#[aA,aD,aI,aJ,aK,aN,aQ,.bool false]) (t:=27) ?_;intro aV hg dB hbox hb;have aC:=aM (hbox);have aW:=gF hg HB;have aH:=gF hg HB;replace HB:=rS HB hb;clear hb hbox hg;have cS:=cA8 aC.out)|((with_reducible refine gC (f:=34) rfl ?_);refine goesL_ (some 27) rfl rfl Tryd.func34 (by kernel_rfl) rfl #[aD] rfl xR ?_;(with_reducible refine (Z21.calls k aD aG _ (tabI_below hT ?hbt_) bW.out).mono ?_);(case hbt_=>repeat ((with_reducible exact HB.out)));rintro e dC ⟨rfl,hb⟩;refine ⟨_,rfl,?_⟩;replace aC:=rB aC hb;replace HB:=rS HB hb;(try clear hb)))
 go_ret
 exact ⟨xW,bl HB.out⟩

def Z10.l0:Nat→Int→Bool→ByteArray→Option (ByteArray)
 | 0,_,_,_=>none
 | k+1,x0,x3,x4=>if x0=0 then (if x3=true then (if 1+x4.size≤9223372036854775807 then (some ((⟨#[45]⟩:ByteArray)++x4)) else (none)) else (some x4)) else (if (Int.tmod x0 10)<0 then ((some (([(wrap64 (48+(wrap64 (-(Int.tmod x0 10))))) % 256]:List Int):List Int)).bind fun aA=>(if (strOfNums aA).size+x4.size≤9223372036854775807 then (Z10.l0 k (wrap64 (Int.tdiv x0 10)) x3 ((strOfNums aA)++x4)) else (none))) else ((some (([(wrap64 (48+(Int.tmod x0 10))) % 256]:List Int):List Int)).bind fun aC=>(if (strOfNums aC).size+x4.size≤9223372036854775807 then (Z10.l0 k (wrap64 (Int.tdiv x0 10)) x3 ((strOfNums aC)++x4)) else (none))))
def Z10.f (k:Nat) (a0:Int):Option (ByteArray):=if a0=0 then (some (⟨#[48]⟩:ByteArray)) else (Z10.l0 k a0 (decide (a0<0)) (⟨#[]⟩:ByteArray))
theorem Z10.mono_l:∀ k,(∀ y0 y1 y2,LeO (Z10.l0 k y0 y1 y2) (Z10.l0 (k+1) y0 y1 y2))
 | 0=>fun _ _ _ r h=>by simp [Z10.l0] at h
 | k+1=>by
  have ih0:=Z10.mono_l k
  ·intro y0 y1 y2
   unfold Z10.l0
   repeat' (with_reducible first|apply ih0|exact lR _|refine lI ?_ ?_|refine lB ?_ fun _=>?_)
theorem Z10.mono:∀ a0 k,LeO (Z10.f k a0) (Z10.f (k+1) a0):=by
 intro a0 k;have ih0:=Z10.mono_l k;unfold Z10.f
 repeat' (with_reducible first|apply ih0|exact lR _|refine lI ?_ ?_)
set_option maxHeartbeats 60000000 in
set_option maxRecDepth 100000 in
theorem Z10.calls (k:Nat) (a0:Int) (r:ByteArray) (w:World) (h:Z10.f k a0=some r) :
  Calls Tryd.prog 35 #[a0] w fun e w'=>e=.returned (.string r)∧Below w.heap.size w w':=by
 have HB:=aM (Below.refl w.heap.size w);have H:(if a0=0 then (some (⟨#[48]⟩:ByteArray)) else (Z10.l0 k a0 (decide (a0<0)) (⟨#[]⟩:ByteArray)))=some r:=h;clear h
 by_cases c2:a0=0
 case pos =>
  rw [if_pos c2] at H
  have aT:(a0 == 0)=true:=beq_iff_eq.mpr c2;have aV:(a0 != 0)=false:=bne_eq_false_iff_eq.mpr c2;clear c2;obtain rfl:=Option.some.inj H;go_enter Tryd.func35,Tryd.ntmps35
  go_wp2
  all_goals skip
  go_ret
  exact ⟨xW,bl HB.out⟩
 rw [if_neg c2] at H
 have aT:(a0 == 0)=false:=beq_eq_false_iff_ne.mpr c2;have aV:(a0 != 0)=true:=bne_iff_ne.mpr c2;have H':=aM H;clear H;go_enter Tryd.func35,Tryd.ntmps35
 go_wp2
 go_loopg [0,4] k (fun kq v0 v4 w'=>∃ (aA:Int) (aC:ByteArray),v0=.int .i64 aA∧v4=.string aC∧Aside0 (Z10.l0 kq aA (decide (a0<0)) aC=some r)∧Aside0 (kq≤k)∧Aside0 (Below w.heap.size w w'))
 case atStart=>exact ⟨(a0),((⟨#[]⟩:ByteArray)),xE,xE,H',⟨Nat.le_refl _⟩,⟨bl HB.out⟩⟩
 case round =>
  clear H'
  repeat first|clear c2|clear aT|clear aV
  obtain ⟨aA,aC,rfl,rfl,HA,aQ,HB⟩:=hrel;cases gk with
  | zero=>exact absurd HA.out (by simp [Z10.l0])
  | succ k1 =>
   have H:=HA.out;clear HA;simp only [Z10.l0] at H
   by_cases c3:aA=0
   case pos =>
    rw [if_pos c3] at H
    have bA:(aA == 0)=true:=beq_iff_eq.mpr c3;have bD:(aA != 0)=false:=bne_eq_false_iff_eq.mpr c3;clear c3
    by_cases c4:(decide (a0<0))=true
    case neg =>
     rw [if_neg c4] at H
     have aD:(decide (a0<0))=false:=by simpa using c4
     have bG:=of_decide_eq_false aD;have bH:(a0<0)=False:=eq_false (of_decide_eq_false aD);have bI:(0≤a0)=True:=eq_true (by have:=of_decide_eq_false aD;omega)
     clear c4;obtain rfl:=Option.some.inj H;go_wp2
     all_goals skip
     go_ret
     exact ⟨xW,bl HB.out⟩
    rw [if_pos c4] at H
    have aD:(decide (a0<0))=true:=c4;have bG:=of_decide_eq_true aD;have bH:(a0<0)=True:=eq_true (of_decide_eq_true aD);have bI:(0≤a0)=False:=eq_false (by have:=of_decide_eq_true aD;omega)
    clear c4
    by_cases c5:1+aC.size≤9223372036854775807
    case neg =>
     rw [if_neg c5] at H
     exact absurd H (by simp)
    rw [if_pos c5] at H
    have bP:=eq_true c5;have bQ:decide (1+aC.size≤9223372036854775807)=true:=decide_eq_true c5
    try have bT:(9223372036854775807<1+aC.size)=False:=eq_false (Nat.not_lt.2 c5)
    obtain rfl:=Option.some.inj H;go_wp2
    all_goals skip
    go_ret
    exact ⟨xW,bl HB.out⟩
   rw [if_neg c3] at H
   have bA:(aA == 0)=false:=beq_eq_false_iff_ne.mpr c3;have bD:(aA != 0)=true:=bne_iff_ne.mpr c3
   by_cases c6:(Int.tmod aA 10)<0
   case pos =>
    rw [if_pos c6] at H
    have bJ:=decide_eq_true c6;clear c6;obtain ⟨aE,aH,H⟩:=hS H;have aI:=aM aH;clear aH
    by_cases c7:(strOfNums aE).size+aC.size≤9223372036854775807
    case neg =>
     rw [if_neg c7] at H
     exact absurd H (by simp)
    rw [if_pos c7] at H
    have bU:=eq_true c7;have bV:decide ((strOfNums aE).size+aC.size≤9223372036854775807)=true:=decide_eq_true c7
    try have bW:(9223372036854775807<(strOfNums aE).size+aC.size)=False:=eq_false (Nat.not_lt.2 c7)
    have H':=aM H;clear H;go_wp2_with (((with_reducible refine gD (N:=21) rfl ?_);refine Kd.R_lit (Kd.int .u8) _ 5 ?hg (N:=21) ?hd (xs:=([(wrap64 (48+(wrap64 (-(Int.tmod aA 10))))) % 256]:List Int)) (inner:=[.int .u8 ((wrap64 (48+(wrap64 (-(Int.tmod aA 10))))) % 256)]) (ok:=fun _=>True) (okp:=fun _=>True) ?hr ?hp (fun _ hk=>hk) trivial (Below.refl _ _) (Nat.le_refl _) (by simp) ?_;(case hd=>rfl);(case hg=>rfl);(case hr=>(go_simp;done));(case hp=>exact (Reps.one (show Kd.M (Kd.int .u8) _ _ _ ((wrap64 (48+(wrap64 (-(Int.tmod aA 10))))) % 256) [.int .u8 ((wrap64 (48+(wrap64 (-(Int.tmod aA 10))))) % 256)] from rfl) (Reps.none _ _)));intro bK w8 ho9 hb hg_ hnew_;clear hg_ hnew_;(rw [← aI.out] at ho9);have aW:=aM (Kd.R_lower ho9 (below_size (bl HB.out)));replace HB:=rS HB hb;clear hb ho9;have hcv10:=own_string (P:=Tryd.prog) Tryd.underlying22 Tryd.underlying5 Tryd.underlying9 (Kd.own_of_R aW.out)))
    go_roundg k1
    case measure=>have:=aQ.out;omega
    case rel=>exact ⟨(wrap64 (Int.tdiv aA 10)),((strOfNums aE)++aC),xE,xE,H',⟨by have:=aQ.out;omega⟩,⟨bl HB.out⟩⟩
   rw [if_neg c6] at H
   have bJ:=decide_eq_false c6;clear c6;obtain ⟨aG,aJ,H⟩:=hS H;have aK:=aM aJ;clear aJ
   by_cases aN:(strOfNums aG).size+aC.size≤9223372036854775807
   case neg =>
    rw [if_neg aN] at H
    exact absurd H (by simp)
   rw [if_pos aN] at H
   have bL:=eq_true aN;have bM:decide ((strOfNums aG).size+aC.size≤9223372036854775807)=true:=decide_eq_true aN
   try have bN:(9223372036854775807<(strOfNums aG).size+aC.size)=False:=eq_false (Nat.not_lt.2 aN)
   have H':=aM H;clear H;go_wp2_with (((with_reducible refine gD (N:=21) rfl ?_);refine Kd.R_lit (Kd.int .u8) _ 5 ?hg (N:=21) ?hd (xs:=([(wrap64 (48+(Int.tmod aA 10))) % 256]:List Int)) (inner:=[.int .u8 ((wrap64 (48+(Int.tmod aA 10))) % 256)]) (ok:=fun _=>True) (okp:=fun _=>True) ?hr ?hp (fun _ hk=>hk) trivial (Below.refl _ _) (Nat.le_refl _) (by simp) ?_;(case hd=>rfl);(case hg=>rfl);(case hr=>(go_simp;done));(case hp=>exact (Reps.one (show Kd.M (Kd.int .u8) _ _ _ ((wrap64 (48+(Int.tmod aA 10))) % 256) [.int .u8 ((wrap64 (48+(Int.tmod aA 10))) % 256)] from rfl) (Reps.none _ _)));intro bO bX ho13 hb hg_ hnew_;clear hg_ hnew_;(rw [← aK.out] at ho13);have aX:=aM (Kd.R_lower ho13 (below_size (bl HB.out)));replace HB:=rS HB hb;clear hb ho13;have hcv14:=own_string (P:=Tryd.prog) Tryd.underlying22 Tryd.underlying5 Tryd.underlying9 (Kd.own_of_R aX.out)))
   go_roundg k1
   case measure=>have:=aQ.out;omega
   case rel=>exact ⟨(wrap64 (Int.tdiv aA 10)),((strOfNums aG)++aC),xE,xE,H',⟨by have:=aQ.out;omega⟩,⟨bl HB.out⟩⟩

end Go.Proofs.YtljbdchibfjbdaaDoor.PFnIns
