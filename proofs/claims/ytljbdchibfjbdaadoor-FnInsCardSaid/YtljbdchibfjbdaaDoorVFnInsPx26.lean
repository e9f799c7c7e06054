/- A part of the proof of laws.FnIns. No condition beyond what its theorems say. -/
import Derived.Test.YtljbdchibfjbdaaDoorVFnInsPx25
namespace Go.Proofs.YtljbdchibfjbdaaDoor.PFnIns
open Go.RowKit Go.Proofs.YtljbdchibfjbdaaDoorW.PrintWords Go.Proofs.YtljbdchibfjbdaaDoorW.PrintLast Go.Proofs.YtljbdchibfjbdaaDoorW.PrintMore Go.Proofs.YtljbdchibfjbdaaDoor.Tabs
set_option linter.unusedVariables false
set_option linter.unusedSimpArgs false

def Z48.f (k:Nat) (aG aH aI aJ:Int):Option (ByteArray):=(Z10.f k aG).bind fun aA=>(if aA.size+1≤9223372036854775807 then ((Z10.f k aH).bind fun aC=>(if (aA++(⟨#[46]⟩:ByteArray)).size+aC.size≤9223372036854775807 then (if ((aA++(⟨#[46]⟩:ByteArray))++aC).size+1≤9223372036854775807 then ((Z10.f k aI).bind fun aD=>(if (((aA++(⟨#[46]⟩:ByteArray))++aC)++(⟨#[46]⟩:ByteArray)).size+aD.size≤9223372036854775807 then (if ((((aA++(⟨#[46]⟩:ByteArray))++aC)++(⟨#[46]⟩:ByteArray))++aD).size+1≤9223372036854775807 then ((Z10.f k aJ).bind fun aE=>(if (((((aA++(⟨#[46]⟩:ByteArray))++aC)++(⟨#[46]⟩:ByteArray))++aD)++(⟨#[46]⟩:ByteArray)).size+aE.size≤9223372036854775807 then (some ((((((aA++(⟨#[46]⟩:ByteArray))++aC)++(⟨#[46]⟩:ByteArray))++aD)++(⟨#[46]⟩:ByteArray))++aE)) else (none))) else (none)) else (none))) else (none)) else (none))) else (none))
theorem Z48.mono:∀ a0 a1 a2 a3 k,LeO (Z48.f k a0 a1 a2 a3) (Z48.f (k+1) a0 a1 a2 a3):=by
 intro a0 a1 a2 a3 k;unfold Z48.f
 repeat' (with_reducible first|apply Z10.mono|exact lR _|refine lI ?_ ?_|refine lB ?_ fun _=>?_)
def Z48.T1:Bool × List (List Nat × List Nat):=(true,[([],[]),([0],[0]),([1],[1]),([2],[2]),([],[]),([4],[4]),([5,2],[5]),([3,6],[3,6]),([7],[7]),([],[]),([9],[9]),([10,6],[10]),([8,11],[8,11]),([12],[12]),([],[]),([14],[14]),([15,11],[15]),([13,16],[13,16]),([17,16,0,1,2,3,4,5,6,7,8,9,10,11,12,13,14,15,16,17],[17])])
def Z48.B1:List Nat:=[0,1,3,7,0,16,55,127,255,0,512,1655,4095,8191,0,16384,52855,131071,262143]
theorem Z48.tab1:rtab .any (opsOf Tryd.f86 1)=Z48.T1:=by kernel_rfl
theorem Z48.bits1:waitsOk Z48.T1.2 Z48.B1=true:=by kernel_rfl
set_option maxHeartbeats 60000000 in
set_option maxRecDepth 100000 in
theorem Z48.calls (k:Nat) (aH aI aJ aK:Int) (r:ByteArray) (w:World) (h:Z48.f k aH aI aJ aK=some r) :
  Calls Tryd.prog 86 #[.agg #[aH,aI,aJ,aK]] w fun e w'=>e=.returned (.string r)∧Below w.heap.size w w':=by
 have bM:=Tryd.underlying25;have HB:=aM (Below.refl w.heap.size w);have H:((Z10.f k aH).bind fun aC=>(if aC.size+1≤9223372036854775807 then ((Z10.f k aI).bind fun aD=>(if (aC++(⟨#[46]⟩:ByteArray)).size+aD.size≤9223372036854775807 then (if ((aC++(⟨#[46]⟩:ByteArray))++aD).size+1≤9223372036854775807 then ((Z10.f k aJ).bind fun aE=>(if (((aC++(⟨#[46]⟩:ByteArray))++aD)++(⟨#[46]⟩:ByteArray)).size+aE.size≤9223372036854775807 then (if ((((aC++(⟨#[46]⟩:ByteArray))++aD)++(⟨#[46]⟩:ByteArray))++aE).size+1≤9223372036854775807 then ((Z10.f k aK).bind fun aG=>(if (((((aC++(⟨#[46]⟩:ByteArray))++aD)++(⟨#[46]⟩:ByteArray))++aE)++(⟨#[46]⟩:ByteArray)).size+aG.size≤9223372036854775807 then (some ((((((aC++(⟨#[46]⟩:ByteArray))++aD)++(⟨#[46]⟩:ByteArray))++aE)++(⟨#[46]⟩:ByteArray))++aG)) else (none))) else (none)) else (none))) else (none)) else (none))) else (none)))=some r:=h
 clear h;obtain ⟨aC,aV,H⟩:=hB H;have A2:=aM aV;clear aV
 by_cases c3:aC.size+1≤9223372036854775807
 case neg =>
  rw [if_neg c3] at H
  exact absurd H (by simp)
 rw [if_pos c3] at H
 have bN:=eq_true c3;have bO:decide (aC.size+1≤9223372036854775807)=true:=decide_eq_true c3
 try have bP:(9223372036854775807<aC.size+1)=False:=eq_false (Nat.not_lt.2 c3)
 obtain ⟨aD,aW,H⟩:=hB H;have A4:=aM aW;clear aW
 by_cases c5:(aC++(⟨#[46]⟩:ByteArray)).size+aD.size≤9223372036854775807
 case neg =>
  rw [if_neg c5] at H
  exact absurd H (by simp)
 rw [if_pos c5] at H
 have bQ:=eq_true c5
 try have bT:(9223372036854775807<aC.size+1+aD.size)=False:=eq_false (by have h_:=c5;have z0_:(⟨#[46]⟩:ByteArray).size=1:=rfl;simp only [ByteArray.size_append,z0_] at h_;omega)
 have bU:decide ((aC++(⟨#[46]⟩:ByteArray)).size+aD.size≤9223372036854775807)=true:=decide_eq_true c5
 try have bV:(9223372036854775807<(aC++(⟨#[46]⟩:ByteArray)).size+aD.size)=False:=eq_false (Nat.not_lt.2 c5)
 by_cases c6:((aC++(⟨#[46]⟩:ByteArray))++aD).size+1≤9223372036854775807
 case neg =>
  rw [if_neg c6] at H
  exact absurd H (by simp)
 rw [if_pos c6] at H
 have bW:=eq_true c6
 try have bX:(9223372036854775807<aC.size+1+aD.size+1)=False:=eq_false (by have h_:=c6;have z0_:(⟨#[46]⟩:ByteArray).size=1:=rfl;simp only [ByteArray.size_append,z0_] at h_;omega)
 have bY:decide (((aC++(⟨#[46]⟩:ByteArray))++aD).size+1≤9223372036854775807)=true:=decide_eq_true c6
 try have bZ:(9223372036854775807<((aC++(⟨#[46]⟩:ByteArray))++aD).size+1)=False:=eq_false (Nat.not_lt.2 c6)
 obtain ⟨aE,aX,H⟩:=hB H;have A7:=aM aX;clear aX
 by_cases c8:(((aC++(⟨#[46]⟩:ByteArray))++aD)++(⟨#[46]⟩:ByteArray)).size+aE.size≤9223372036854775807
 case neg =>
  rw [if_neg c8] at H
  exact absurd H (by simp)
 rw [if_pos c8] at H
 have cA:=eq_true c8
 try have cC:(9223372036854775807<aC.size+1+aD.size+1+aE.size)=False:=eq_false (by have h_:=c8;have z0_:(⟨#[46]⟩:ByteArray).size=1:=rfl;simp only [ByteArray.size_append,z0_] at h_;omega)
 have cD:decide ((((aC++(⟨#[46]⟩:ByteArray))++aD)++(⟨#[46]⟩:ByteArray)).size+aE.size≤9223372036854775807)=true:=decide_eq_true c8
 try have cE:(9223372036854775807<(((aC++(⟨#[46]⟩:ByteArray))++aD)++(⟨#[46]⟩:ByteArray)).size+aE.size)=False:=eq_false (Nat.not_lt.2 c8)
 by_cases c9:((((aC++(⟨#[46]⟩:ByteArray))++aD)++(⟨#[46]⟩:ByteArray))++aE).size+1≤9223372036854775807
 case neg =>
  rw [if_neg c9] at H
  exact absurd H (by simp)
 rw [if_pos c9] at H
 have cG:=eq_true c9
 try have cH:(9223372036854775807<aC.size+1+aD.size+1+aE.size+1)=False:=eq_false (by have h_:=c9;have z0_:(⟨#[46]⟩:ByteArray).size=1:=rfl;simp only [ByteArray.size_append,z0_] at h_;omega)
 have cK:decide (((((aC++(⟨#[46]⟩:ByteArray))++aD)++(⟨#[46]⟩:ByteArray))++aE).size+1≤9223372036854775807)=true:=decide_eq_true c9
 try have cL:(9223372036854775807<((((aC++(⟨#[46]⟩:ByteArray))++aD)++(⟨#[46]⟩:ByteArray))++aE).size+1)=False:=eq_false (Nat.not_lt.2 c9)
 obtain ⟨aG,aQ,H⟩:=hB H;have bA:=aM aQ;clear aQ
 by_cases aN:(((((aC++(⟨#[46]⟩:ByteArray))++aD)++(⟨#[46]⟩:ByteArray))++aE)++(⟨#[46]⟩:ByteArray)).size+aG.size≤9223372036854775807
 case neg =>
  rw [if_neg aN] at H
  exact absurd H (by simp)
 rw [if_pos aN] at H
 have bI:=eq_true aN
 try have bJ:(9223372036854775807<aC.size+1+aD.size+1+aE.size+1+aG.size)=False:=eq_false (by have h_:=aN;have z0_:(⟨#[46]⟩:ByteArray).size=1:=rfl;simp only [ByteArray.size_append,z0_] at h_;omega)
 have bK:decide ((((((aC++(⟨#[46]⟩:ByteArray))++aD)++(⟨#[46]⟩:ByteArray))++aE)++(⟨#[46]⟩:ByteArray)).size+aG.size≤9223372036854775807)=true:=decide_eq_true aN
 try have bL:(9223372036854775807<(((((aC++(⟨#[46]⟩:ByteArray))++aD)++(⟨#[46]⟩:ByteArray))++aE)++(⟨#[46]⟩:ByteArray)).size+aG.size)=False:=eq_false (Nat.not_lt.2 aN)
 obtain rfl:=Option.some.inj H;go_enter Tryd.func86,Tryd.ntmps86
 try go_wp2_with (((with_reducible refine gD (N:=1) rfl ?_);refine bE (N:=1) (cs:=#[aH,aI,aJ,aK]) (t:=25) ?_;intro aT hg bD hbox hb;have aA:=aM (hbox);have bG:=gF hg HB;have bH:=gF hg HB;replace HB:=rS HB hb;clear hb hbox hg))
 replace aA:=aM (blk_drew aA.out);replace HB:=aM (below_drew1 HB.out);refine start_ (n:=19) (S:=fun w'=>cS4 w' aT (.int .i64 aH) (.int .i64 aI) (.int .i64 aJ) (.int .i64 aK)) (ds:=[]) (dn 19 0) (by kernel_rfl) rfl rfl ⟨cI aA.out 0,cI aA.out 1,cI aA.out 2,cI aA.out 3⟩ (fun hHeld=>?_);refine with_tabW Z48.tab1 Z48.bits1 (fun HT_ HW_=>?_)
 generalize bD.drew=cN at aA HB hHeld ⊢
 refine nY (N:=some 3) HT_ ?_;refine pZ 4 7 (bv 19 17) HT_ ?_;refine pZ 9 12 (bv 19 529) HT_ ?_;refine pZ 14 17 (bv 19 16913) HT_ ?_;refine aZ 1 4 (bv 19 16915) HT_ HW_ hHeld ?_;refine aZ 5 8 (bv 19 16947) HT_ HW_ hHeld ?_;refine aZ 10 13 (bv 19 17971) HT_ HW_ hHeld ?_;refine aZ 15 18 (bv 19 50739) HT_ HW_ hHeld ?_;refine one_ (i:=2) (N:=some 5) (bv 19 50743) rfl rfl (one_of HT_.out (by kernel_rfl)) (by decide) (fun K hK=>?_)
 refine goes_ Tryd.func35 (by kernel_rfl) rfl #[aH] (by rfl) rfl rfl xR ?_
 with_reducible refine (Z10.calls k aH aC _ A2.out).mono ?_
 rintro e cO ⟨rfl,hb⟩;refine ⟨_,rfl,?_⟩;replace aA:=rB aA hb;replace HB:=rS HB hb
 (try clear hb)
 refine hK.out _ _ ⟨cI aA.out 0,cI aA.out 1,cI aA.out 2,cI aA.out 3⟩ (fun hHeld=>?_)
 clear hK K;refine norm_ (a':=?_) ?_ ?_;rotate_left
 ·show Act.put _ (some 5) _=_
  simp only [Act.put,sA,sZ,sS,i64_w,i32_w]
  rfl
 refine pZ 3 6 (bv 19 50751) HT_ ?_;refine one_ (i:=6) (N:=some 9) (bv 19 50815) rfl rfl (one_of HT_.out (by kernel_rfl)) (by decide) (fun K hK=>?_)
 refine goes_ Tryd.func35 (by kernel_rfl) rfl #[aI] (by rfl) rfl rfl xR ?_
 with_reducible refine (Z10.calls k aI aD _ A4.out).mono ?_
 rintro e cP ⟨rfl,hb⟩;refine ⟨_,rfl,?_⟩;replace aA:=rB aA hb;replace HB:=rS HB hb
 (try clear hb)
 refine hK.out _ _ ⟨cI aA.out 0,cI aA.out 1,cI aA.out 2,cI aA.out 3⟩ (fun hHeld=>?_)
 clear hK K;refine norm_ (a':=?_) ?_ ?_;rotate_left
 ·show Act.put _ (some 9) _=_
  simp only [Act.put,sA,sZ,sS,i64_w,i32_w]
  rfl
 refine pZ 7 10 (bv 19 50943) HT_ ?_;refine pZ 8 11 (bv 19 51199) HT_ ?_;refine one_ (i:=11) (N:=some 14) (bv 19 53247) rfl rfl (one_of HT_.out (by kernel_rfl)) (by decide) (fun K hK=>?_)
 refine goes_ Tryd.func35 (by kernel_rfl) rfl #[aJ] (by rfl) rfl rfl xR ?_
 with_reducible refine (Z10.calls k aJ aE _ A7.out).mono ?_
 rintro e cQ ⟨rfl,hb⟩;refine ⟨_,rfl,?_⟩;replace aA:=rB aA hb;replace HB:=rS HB hb
 (try clear hb)
 refine hK.out _ _ ⟨cI aA.out 0,cI aA.out 1,cI aA.out 2,cI aA.out 3⟩ (fun hHeld=>?_)
 clear hK K;refine norm_ (a':=?_) ?_ ?_;rotate_left
 ·show Act.put _ (some 14) _=_
  simp only [Act.put,sA,sZ,sS,i64_w,i32_w]
  rfl
 refine pZ 12 15 (bv 19 57343) HT_ ?_;refine pZ 13 16 (bv 19 65535) HT_ ?_;refine one_ (i:=16) (N:=some 19) (bv 19 131071) rfl rfl (one_of HT_.out (by kernel_rfl)) (by decide) (fun K hK=>?_)
 refine goes_ Tryd.func35 (by kernel_rfl) rfl #[aK] (by rfl) rfl rfl xR ?_
 with_reducible refine (Z10.calls k aK aG _ bA.out).mono ?_
 rintro e cR ⟨rfl,hb⟩;refine ⟨_,rfl,?_⟩;replace aA:=rB aA hb;replace HB:=rS HB hb
 (try clear hb)
 refine hK.out _ _ ⟨cI aA.out 0,cI aA.out 1,cI aA.out 2,cI aA.out 3⟩ (fun hHeld=>?_)
 clear hK K;refine norm_ (a':=?_) ?_ ?_;rotate_left
 ·show Act.put _ (some 19) _=_
  simp only [Act.put,sA,sZ,sS,i64_w,i32_w]
  rfl
 refine pZ 17 20 (bv 19 262143) HT_ ?_;refine pZ 18 2 (bv 19 524287) HT_ ?_;refine done_ (done_of HT_.out (by kernel_rfl)) ?_
 try go_wp2
 go_ret
 exact ⟨xW,bl HB.out⟩

def Z42.f (k:Nat) (a0 aE aG aH aI a2:Int):Option (ByteArray):=(Z10.f k a0).bind fun aA=>(if 6+aA.size≤9223372036854775807 then (if ((⟨#[99,108,97,105,109,32]⟩:ByteArray)++aA).size+1≤9223372036854775807 then ((Z48.f k aE aG aH aI).bind fun aC=>(if (((⟨#[99,108,97,105,109,32]⟩:ByteArray)++aA)++(⟨#[32]⟩:ByteArray)).size+aC.size≤9223372036854775807 then (if ((((⟨#[99,108,97,105,109,32]⟩:ByteArray)++aA)++(⟨#[32]⟩:ByteArray))++aC).size+1≤9223372036854775807 then ((Z10.f k a2).bind fun aD=>(if (((((⟨#[99,108,97,105,109,32]⟩:ByteArray)++aA)++(⟨#[32]⟩:ByteArray))++aC)++(⟨#[32]⟩:ByteArray)).size+aD.size≤9223372036854775807 then (some ((((((⟨#[99,108,97,105,109,32]⟩:ByteArray)++aA)++(⟨#[32]⟩:ByteArray))++aC)++(⟨#[32]⟩:ByteArray))++aD)) else (none))) else (none)) else (none))) else (none)) else (none))
theorem Z42.mono:∀ a0 a1 a2 a3 a4 a5 k,LeO (Z42.f k a0 a1 a2 a3 a4 a5) (Z42.f (k+1) a0 a1 a2 a3 a4 a5):=by
 intro a0 a1 a2 a3 a4 a5 k;unfold Z42.f
 repeat' (with_reducible first|apply Z10.mono|apply Z48.mono|exact lR _|refine lI ?_ ?_|refine lB ?_ fun _=>?_)
def Z42.T1:Bool × List (List Nat × List Nat):=(true,[([],[]),([0],[0]),([1],[1]),([2],[2]),([],[]),([4,1],[4]),([3,5],[3,5]),([6],[6]),([],[]),([8,5],[8]),([7,9],[7,9]),([10,9,0,1,2,3,4,5,6,7,8,9,10],[10])])
def Z42.B1:List Nat:=[0,1,3,7,0,19,63,127,0,307,1023,2047]
theorem Z42.tab1:rtab .any (opsOf Tryd.f65 1)=Z42.T1:=by kernel_rfl
theorem Z42.bits1:waitsOk Z42.T1.2 Z42.B1=true:=by kernel_rfl
set_option maxHeartbeats 60000000 in
set_option maxRecDepth 100000 in
theorem Z42.calls (k:Nat) (a0 aG aH aI aJ a2:Int) (r:ByteArray) (w:World) (h:Z42.f k a0 aG aH aI aJ a2=some r) :
  Calls Tryd.prog 65 #[a0,.agg #[aG,aH,aI,aJ],a2] w fun e w'=>e=.returned (.string r)∧Below w.heap.size w w':=by
 have bK:=Tryd.underlying25;have HB:=aM (Below.refl w.heap.size w);have H:((Z10.f k a0).bind fun aC=>(if 6+aC.size≤9223372036854775807 then (if ((⟨#[99,108,97,105,109,32]⟩:ByteArray)++aC).size+1≤9223372036854775807 then ((Z48.f k aG aH aI aJ).bind fun aD=>(if (((⟨#[99,108,97,105,109,32]⟩:ByteArray)++aC)++(⟨#[32]⟩:ByteArray)).size+aD.size≤9223372036854775807 then (if ((((⟨#[99,108,97,105,109,32]⟩:ByteArray)++aC)++(⟨#[32]⟩:ByteArray))++aD).size+1≤9223372036854775807 then ((Z10.f k a2).bind fun aE=>(if (((((⟨#[99,108,97,105,109,32]⟩:ByteArray)++aC)++(⟨#[32]⟩:ByteArray))++aD)++(⟨#[32]⟩:ByteArray)).size+aE.size≤9223372036854775807 then (some ((((((⟨#[99,108,97,105,109,32]⟩:ByteArray)++aC)++(⟨#[32]⟩:ByteArray))++aD)++(⟨#[32]⟩:ByteArray))++aE)) else (none))) else (none)) else (none))) else (none)) else (none)))=some r:=h
 clear h;obtain ⟨aC,aT,H⟩:=hB H;have A4:=aM aT;clear aT
 by_cases c5:6+aC.size≤9223372036854775807
 case neg =>
  rw [if_neg c5] at H
  exact absurd H (by simp)
 rw [if_pos c5] at H
 have bL:=eq_true c5;have bM:decide (6+aC.size≤9223372036854775807)=true:=decide_eq_true c5
 try have bN:(9223372036854775807<6+aC.size)=False:=eq_false (Nat.not_lt.2 c5)
 by_cases c6:((⟨#[99,108,97,105,109,32]⟩:ByteArray)++aC).size+1≤9223372036854775807
 case neg =>
  rw [if_neg c6] at H
  exact absurd H (by simp)
 rw [if_pos c6] at H
 have bO:=eq_true c6
 try have bP:(9223372036854775807<6+aC.size+1)=False:=eq_false (by have h_:=c6;have z0_:(⟨#[99,108,97,105,109,32]⟩:ByteArray).size=6:=rfl;simp only [ByteArray.size_append,z0_] at h_;omega)
 have bQ:decide (((⟨#[99,108,97,105,109,32]⟩:ByteArray)++aC).size+1≤9223372036854775807)=true:=decide_eq_true c6
 try have bT:(9223372036854775807<((⟨#[99,108,97,105,109,32]⟩:ByteArray)++aC).size+1)=False:=eq_false (Nat.not_lt.2 c6)
 obtain ⟨aD,aV,H⟩:=hB H;have A7:=aM aV;clear aV
 by_cases c8:(((⟨#[99,108,97,105,109,32]⟩:ByteArray)++aC)++(⟨#[32]⟩:ByteArray)).size+aD.size≤9223372036854775807
 case neg =>
  rw [if_neg c8] at H
  exact absurd H (by simp)
 rw [if_pos c8] at H
 have bU:=eq_true c8
 try have bV:(9223372036854775807<6+aC.size+1+aD.size)=False:=eq_false (by have h_:=c8;have z0_:(⟨#[99,108,97,105,109,32]⟩:ByteArray).size=6:=rfl;have z1_:(⟨#[32]⟩:ByteArray).size=1:=rfl;simp only [ByteArray.size_append,z0_,z1_] at h_;omega)
 have bW:decide ((((⟨#[99,108,97,105,109,32]⟩:ByteArray)++aC)++(⟨#[32]⟩:ByteArray)).size+aD.size≤9223372036854775807)=true:=decide_eq_true c8
 try have bX:(9223372036854775807<(((⟨#[99,108,97,105,109,32]⟩:ByteArray)++aC)++(⟨#[32]⟩:ByteArray)).size+aD.size)=False:=eq_false (Nat.not_lt.2 c8)
 by_cases c9:((((⟨#[99,108,97,105,109,32]⟩:ByteArray)++aC)++(⟨#[32]⟩:ByteArray))++aD).size+1≤9223372036854775807
 case neg =>
  rw [if_neg c9] at H
  exact absurd H (by simp)
 rw [if_pos c9] at H
 have bY:=eq_true c9
 try have bZ:(9223372036854775807<6+aC.size+1+aD.size+1)=False:=eq_false (by have h_:=c9;have z0_:(⟨#[99,108,97,105,109,32]⟩:ByteArray).size=6:=rfl;have z1_:(⟨#[32]⟩:ByteArray).size=1:=rfl;simp only [ByteArray.size_append,z0_,z1_] at h_;omega)
 have cA:decide (((((⟨#[99,108,97,105,109,32]⟩:ByteArray)++aC)++(⟨#[32]⟩:ByteArray))++aD).size+1≤9223372036854775807)=true:=decide_eq_true c9
 try have cC:(9223372036854775807<((((⟨#[99,108,97,105,109,32]⟩:ByteArray)++aC)++(⟨#[32]⟩:ByteArray))++aD).size+1)=False:=eq_false (Nat.not_lt.2 c9)
 obtain ⟨aE,aN,H⟩:=hB H;have aW:=aM aN;clear aN
 by_cases aK:(((((⟨#[99,108,97,105,109,32]⟩:ByteArray)++aC)++(⟨#[32]⟩:ByteArray))++aD)++(⟨#[32]⟩:ByteArray)).size+aE.size≤9223372036854775807
 case neg =>
  rw [if_neg aK] at H
  exact absurd H (by simp)
 rw [if_pos aK] at H
 have bG:=eq_true aK
 try have bH:(9223372036854775807<6+aC.size+1+aD.size+1+aE.size)=False:=eq_false (by have h_:=aK;have z0_:(⟨#[99,108,97,105,109,32]⟩:ByteArray).size=6:=rfl;have z1_:(⟨#[32]⟩:ByteArray).size=1:=rfl;simp only [ByteArray.size_append,z0_,z1_] at h_;omega)
 have bI:decide ((((((⟨#[99,108,97,105,109,32]⟩:ByteArray)++aC)++(⟨#[32]⟩:ByteArray))++aD)++(⟨#[32]⟩:ByteArray)).size+aE.size≤9223372036854775807)=true:=decide_eq_true aK
 try have bJ:(9223372036854775807<(((((⟨#[99,108,97,105,109,32]⟩:ByteArray)++aC)++(⟨#[32]⟩:ByteArray))++aD)++(⟨#[32]⟩:ByteArray)).size+aE.size)=False:=eq_false (Nat.not_lt.2 aK)
 obtain rfl:=Option.some.inj H;go_enter Tryd.func65,Tryd.ntmps65
 try go_wp2_with (((with_reducible refine gD (N:=4) rfl ?_);refine bE (N:=4) (cs:=#[aG,aH,aI,aJ]) (t:=25) ?_;intro aQ hg aX hbox hb;have aA:=aM (hbox);have bA:=gF hg HB;have bD:=gF hg HB;replace HB:=rS HB hb;clear hb hbox hg))
 replace aA:=aM (blk_drew aA.out);replace HB:=aM (below_drew1 HB.out);refine start_ (n:=12) (S:=fun w'=>cS4 w' aQ (.int .i64 aG) (.int .i64 aH) (.int .i64 aI) (.int .i64 aJ)) (ds:=[]) (dn 12 0) (by kernel_rfl) rfl rfl ⟨cI aA.out 0,cI aA.out 1,cI aA.out 2,cI aA.out 3⟩ (fun hHeld=>?_);refine with_tabW Z42.tab1 Z42.bits1 (fun HT_ HW_=>?_)
 generalize aX.drew=cD at aA HB hHeld ⊢
 refine nY (N:=some 7) HT_ ?_;refine pZ 8 15 (bv 12 257) HT_ ?_;refine aZ 4 11 (bv 12 273) HT_ HW_ hHeld ?_;refine one_ (i:=1) (N:=some 8) (bv 12 275) rfl rfl (one_of HT_.out (by kernel_rfl)) (by decide) (fun K hK=>?_)
 refine goes_ Tryd.func35 (by kernel_rfl) rfl #[a0] (by rfl) rfl rfl xR ?_
 with_reducible refine (Z10.calls k a0 aC _ A4.out).mono ?_
 rintro e cE ⟨rfl,hb⟩;refine ⟨_,rfl,?_⟩;replace aA:=rB aA hb;replace HB:=rS HB hb
 (try clear hb)
 refine hK.out _ _ ⟨cI aA.out 0,cI aA.out 1,cI aA.out 2,cI aA.out 3⟩ (fun hHeld=>?_)
 clear hK K;refine norm_ (a':=?_) ?_ ?_;rotate_left
 ·show Act.put _ (some 8) _=_
  simp only [Act.put,sA,sZ,sS,i64_w,i32_w]
  rfl
 refine pZ 2 9 (bv 12 279) HT_ ?_;refine pZ 3 10 (bv 12 287) HT_ ?_;refine one_ (i:=5) (N:=some 12) (bv 12 319) rfl rfl (one_of HT_.out (by kernel_rfl)) (by decide) (fun K hK=>?_)
 refine goes_ Tryd.func86 (by kernel_rfl) rfl #[.agg #[aG,aH,aI,aJ]] (by rfl) rfl rfl xR ?_
 with_reducible refine (Z48.calls k aG aH aI aJ aD _ A7.out).mono ?_
 rintro e cG ⟨rfl,hb⟩;refine ⟨_,rfl,?_⟩;replace aA:=rB aA hb;replace HB:=rS HB hb
 (try clear hb)
 refine hK.out _ _ ⟨cI aA.out 0,cI aA.out 1,cI aA.out 2,cI aA.out 3⟩ (fun hHeld=>?_)
 clear hK K;refine norm_ (a':=?_) ?_ ?_;rotate_left
 ·show Act.put _ (some 12) _=_
  simp only [Act.put,sA,sZ,sS,i64_w,i32_w]
  rfl
 refine pZ 6 13 (bv 12 383) HT_ ?_;refine pZ 7 14 (bv 12 511) HT_ ?_;refine one_ (i:=9) (N:=some 16) (bv 12 1023) rfl rfl (one_of HT_.out (by kernel_rfl)) (by decide) (fun K hK=>?_)
 refine goes_ Tryd.func35 (by kernel_rfl) rfl #[a2] (by rfl) rfl rfl xR ?_
 with_reducible refine (Z10.calls k a2 aE _ aW.out).mono ?_
 rintro e cH ⟨rfl,hb⟩;refine ⟨_,rfl,?_⟩;replace aA:=rB aA hb;replace HB:=rS HB hb
 (try clear hb)
 refine hK.out _ _ ⟨cI aA.out 0,cI aA.out 1,cI aA.out 2,cI aA.out 3⟩ (fun hHeld=>?_)
 clear hK K;refine norm_ (a':=?_) ?_ ?_;rotate_left
 ·show Act.put _ (some 16) _=_
  simp only [Act.put,sA,sZ,sS,i64_w,i32_w]
  rfl
 refine pZ 10 17 (bv 12 2047) HT_ ?_;refine pZ 11 6 (bv 12 4095) HT_ ?_;refine done_ (done_of HT_.out (by kernel_rfl)) ?_
 try go_wp2
 go_ret
 exact ⟨xW,bl HB.out⟩

def Z57.f (k:Nat) (aD aE aH aI aJ aK aN:Int) (aQ:Bool):Option (ByteArray):=if aD=1 then ((Z42.f k aE aH aI aJ aK aN).bind fun aG=>(some aG)) else (if aD=2 then (some (⟨#[116,105,99,107]⟩:ByteArray)) else (if aD=3 then (if aQ=true then ((Z10.f k aE).bind fun aA=>(if 5+aA.size≤9223372036854775807 then (if ((⟨#[108,105,110,107,32]⟩:ByteArray)++aA).size+3≤9223372036854775807 then (some (((⟨#[108,105,110,107,32]⟩:ByteArray)++aA)++(⟨#[32,117,112]⟩:ByteArray))) else (none)) else (none))) else ((Z10.f k aE).bind fun aC=>(if 5+aC.size≤9223372036854775807 then (if ((⟨#[108,105,110,107,32]⟩:ByteArray)++aC).size+5≤9223372036854775807 then (some (((⟨#[108,105,110,107,32]⟩:ByteArray)++aC)++(⟨#[32,100,111,119,110]⟩:ByteArray))) else (none)) else (none)))) else (some (⟨#[110,111,110,101]⟩:ByteArray))))
theorem Z57.mono:∀ a0 a1 a2 a3 a4 a5 a6 a7 k,LeO (Z57.f k a0 a1 a2 a3 a4 a5 a6 a7) (Z57.f (k+1) a0 a1 a2 a3 a4 a5 a6 a7):=by
 intro a0 a1 a2 a3 a4 a5 a6 a7 k;unfold Z57.f
 repeat' (with_reducible first|apply Z10.mono|apply Z42.mono|exact lR _|refine lI ?_ ?_|refine lB ?_ fun _=>?_)
set_option maxHeartbeats 60000000 in
set_option maxRecDepth 100000 in
theorem Z57.calls (k:Nat) (aA aD aH aI aJ aK aN:Int) (aQ:Bool) (r:ByteArray) (w:World) (h:Z57.f k aA aD aH aI aJ aK aN aQ=some r) :
  Calls Tryd.prog 21 #[.agg #[aA,aD,aH,aI,aJ,aK,aN,aQ]] w fun e w'=>e=.returned (.string r)∧Below w.heap.size w w':=by
 have cT:=Tryd.underlying27;have cU:=Tryd.underlying25;have HB:=aM (Below.refl w.heap.size w);have H:(if aA=1 then ((Z42.f k aD aH aI aJ aK aN).bind fun bG=>(some bG)) else (if aA=2 then (some (⟨#[116,105,99,107]⟩:ByteArray)) else (if aA=3 then (if aQ=true then ((Z10.f k aD).bind fun aE=>(if 5+aE.size≤9223372036854775807 then (if ((⟨#[108,105,110,107,32]⟩:ByteArray)++aE).size+3≤9223372036854775807 then (some (((⟨#[108,105,110,107,32]⟩:ByteArray)++aE)++(⟨#[32,117,112]⟩:ByteArray))) else (none)) else (none))) else ((Z10.f k aD).bind fun aG=>(if 5+aG.size≤9223372036854775807 then (if ((⟨#[108,105,110,107,32]⟩:ByteArray)++aG).size+5≤9223372036854775807 then (some (((⟨#[108,105,110,107,32]⟩:ByteArray)++aG)++(⟨#[32,100,111,119,110]⟩:ByteArray))) else (none)) else (none)))) else (some (⟨#[110,111,110,101]⟩:ByteArray)))))=some r:=h
 clear h
 by_cases c2:aA=1
 case pos =>
  rw [if_pos c2] at H
  have bP:(aA == 1)=true:=beq_iff_eq.mpr c2;have bQ:(aA != 1)=false:=bne_eq_false_iff_eq.mpr c2;clear c2;obtain ⟨bG,bO,H⟩:=hB H;have A3:=aM bO;clear bO;obtain rfl:=Option.some.inj H;go_enter Tryd.func21,Tryd.ntmps21
  go_wp2_with (first|((with_reducible refine gD (N:=1) rfl ?_);refine bE (N:=1) (cs:=#[aA,aD,aH,aI,aJ,aK,aN,aQ]) (t:=27) ?_;intro aT hg w4 hbox hb;have aC:=aM (hbox);have aV:=gF hg HB;have aW:=gF hg HB;replace HB:=rS HB hb;clear hb hbox hg;have cV:=cA8 aC.out)|((with_reducible refine gC (f:=65) rfl ?_);refine goesL_ (some 13) rfl rfl Tryd.func65 (by kernel_rfl) rfl #[aD,.agg #[aH,aI,aJ,aK],aN] rfl xR ?_;(with_reducible refine (Z42.calls k aD aH aI aJ aK aN bG _ A3.out).mono ?_);rintro e w6 ⟨rfl,hb⟩;refine ⟨_,rfl,?_⟩;replace aC:=rB aC hb;replace HB:=rS HB hb;(try clear hb)))
  go_ret
  exact ⟨xW,bl HB.out⟩
 rw [if_neg c2] at H
 have bP:(aA == 1)=false:=beq_eq_false_iff_ne.mpr c2;have bQ:(aA != 1)=true:=bne_iff_ne.mpr c2
 by_cases c7:aA=2
 case pos =>
  rw [if_pos c7] at H
  have bT:(aA == 2)=true:=beq_iff_eq.mpr c7;have bU:(aA != 2)=false:=bne_eq_false_iff_eq.mpr c7;clear c7;obtain rfl:=Option.some.inj H;go_enter Tryd.func21,Tryd.ntmps21
  go_wp2_with (((with_reducible refine gD (N:=1) rfl ?_);refine bE (N:=1) (cs:=#[aA,aD,aH,aI,aJ,aK,aN,aQ]) (t:=27) ?_;intro aT hg w8 hbox hb;have aC:=aM (hbox);have aV:=gF hg HB;have aW:=gF hg HB;replace HB:=rS HB hb;clear hb hbox hg;have cW:=cA8 aC.out))
  go_ret
  exact ⟨xW,bl HB.out⟩
 rw [if_neg c7] at H
 have bT:(aA == 2)=false:=beq_eq_false_iff_ne.mpr c7;have bU:(aA != 2)=true:=bne_iff_ne.mpr c7
 by_cases aX:aA=3
 case neg =>
  rw [if_neg aX] at H
  have bM:(aA == 3)=false:=beq_eq_false_iff_ne.mpr aX;have bN:(aA != 3)=true:=bne_iff_ne.mpr aX;obtain rfl:=Option.some.inj H;go_enter Tryd.func21,Tryd.ntmps21
  go_wp2_with (((with_reducible refine gD (N:=1) rfl ?_);refine bE (N:=1) (cs:=#[aA,aD,aH,aI,aJ,aK,aN,aQ]) (t:=27) ?_;intro aT hg cX hbox hb;have aC:=aM (hbox);have aV:=gF hg HB;have aW:=gF hg HB;replace HB:=rS HB hb;clear hb hbox hg;have bX:=cA8 aC.out))
  go_ret
  exact ⟨xW,bl HB.out⟩
 rw [if_pos aX] at H
 have bM:(aA == 3)=true:=beq_iff_eq.mpr aX;have bN:(aA != 3)=false:=bne_eq_false_iff_eq.mpr aX;clear aX
 by_cases bJ:aQ=true
 case pos =>
  subst bJ;replace H:=hP H rfl;obtain ⟨aE,bK,H⟩:=hB H;have bV:=aM bK;clear bK
  by_cases bH:5+aE.size≤9223372036854775807
  case neg =>
   rw [if_neg bH] at H
   exact absurd H (by simp)
  rw [if_pos bH] at H
  have bY:=eq_true bH;have bZ:decide (5+aE.size≤9223372036854775807)=true:=decide_eq_true bH
  try have cA:(9223372036854775807<5+aE.size)=False:=eq_false (Nat.not_lt.2 bH)
  by_cases bA:((⟨#[108,105,110,107,32]⟩:ByteArray)++aE).size+3≤9223372036854775807
  case neg =>
   rw [if_neg bA] at H
   exact absurd H (by simp)
  rw [if_pos bA] at H
  have cC:=eq_true bA
  try have cD:(9223372036854775807<5+aE.size+3)=False:=eq_false (by have h_:=bA;have z0_:(⟨#[108,105,110,107,32]⟩:ByteArray).size=5:=rfl;simp only [ByteArray.size_append,z0_] at h_;omega)
  have cE:decide (((⟨#[108,105,110,107,32]⟩:ByteArray)++aE).size+3≤9223372036854775807)=true:=decide_eq_true bA
  try have cG:(9223372036854775807<((⟨#[108,105,110,107,32]⟩:ByteArray)++aE).size+3)=False:=eq_false (Nat.not_lt.2 bA)
  obtain rfl:=Option.some.inj H;go_enter Tryd.func21,Tryd.ntmps21
  go_wp2_with (first|((with_reducible refine gD (N:=1) rfl ?_);refine bE (N:=1) (cs:=#[aA,aD,aH,aI,aJ,aK,aN,.bool true]) (t:=27) ?_;intro aT hg cY hbox hb;have aC:=aM (hbox);have aV:=gF hg HB;have aW:=gF hg HB;replace HB:=rS HB hb;clear hb hbox hg;have cH:=cA8 aC.out)|((with_reducible refine gC (f:=35) rfl ?_);refine goesL_ (some 22) rfl rfl Tryd.func35 (by kernel_rfl) rfl #[aD] rfl xR ?_;(with_reducible refine (Z10.calls k aD aE _ bV.out).mono ?_);rintro e dA ⟨rfl,hb⟩;refine ⟨_,rfl,?_⟩;replace aC:=rB aC hb;replace HB:=rS HB hb;(try clear hb)))
  go_ret
  exact ⟨xW,bl HB.out⟩
 replace bJ:=Bool.eq_false_iff.mpr bJ;subst bJ;replace H:=hF H;obtain ⟨aG,bL,H⟩:=hB H;have bW:=aM bL;clear bL
 by_cases bI:5+aG.size≤9223372036854775807
 case neg =>
  rw [if_neg bI] at H
  exact absurd H (by simp)
 rw [if_pos bI] at H
 have cK:=eq_true bI;have cL:decide (5+aG.size≤9223372036854775807)=true:=decide_eq_true bI
 try have cN:(9223372036854775807<5+aG.size)=False:=eq_false (Nat.not_lt.2 bI)
 by_cases bD:((⟨#[108,105,110,107,32]⟩:ByteArray)++aG).size+5≤9223372036854775807
 case neg =>
  rw [if_neg bD] at H
  exact absurd H (by simp)
 rw [if_pos bD] at H
 have cO:=eq_true bD
 try have cP:(9223372036854775807<5+aG.size+5)=False:=eq_false (by have h_:=bD;have z0_:(⟨#[108,105,110,107,32]⟩:ByteArray).size=5:=rfl;simp only [ByteArray.size_append,z0_] at h_;omega)
 have cQ:decide (((⟨#[108,105,110,107,32]⟩:ByteArray)++aG).size+5≤9223372036854775807)=true:=decide_eq_true bD
 try have cR:(9223372036854775807<((⟨#[108,105,110,107,32]⟩:ByteArray)++aG).size+5)=False:=eq_false (Nat.not_lt.2 bD)
 obtain rfl:=Option.some.inj H;go_enter Tryd.func21,Tryd.ntmps21
 go_wp2_with (first|((with_reducible refine gD (N:=1) rfl ?_);refine bE (N:=1) (cs:=#[aA,aD,aH,aI,aJ,aK,aN,.bool false]) (t:=27) ?_;intro aT hg dB hbox hb;have aC:=aM (hbox);have aV:=gF hg HB;have aW:=gF hg HB;replace HB:=rS HB hb;clear hb hbox hg;have cS:=cA8 aC.out)|((with_reducible refine gC (f:=35) rfl ?_);refine goesL_ (some 27) rfl rfl Tryd.func35 (by kernel_rfl) rfl #[aD] rfl xR ?_;(with_reducible refine (Z10.calls k aD aG _ bW.out).mono ?_);rintro e dC ⟨rfl,hb⟩;refine ⟨_,rfl,?_⟩;replace aC:=rB aC hb;replace HB:=rS HB hb;(try clear hb)))
 go_ret
 exact ⟨xW,bl HB.out⟩

def Z58.f (k:Nat) (aE aD aH aI aJ aK aN:Int) (aQ:Bool):Option (ByteArray):=if aE=1 then ((Z43.f k aD aH aI aJ aK aN).bind fun aG=>(some aG)) else (if aE=2 then (if aQ=true then ((Z21.f k aD).bind fun aA=>(if 5+aA.size≤9223372036854775807 then (if ((⟨#[103,97,116,101,32]⟩:ByteArray)++aA).size+5≤9223372036854775807 then (some (((⟨#[103,97,116,101,32]⟩:ByteArray)++aA)++(⟨#[32,111,112,101,110]⟩:ByteArray))) else (none)) else (none))) else ((Z21.f k aD).bind fun aC=>(if 5+aC.size≤9223372036854775807 then (if ((⟨#[103,97,116,101,32]⟩:ByteArray)++aC).size+5≤9223372036854775807 then (some (((⟨#[103,97,116,101,32]⟩:ByteArray)++aC)++(⟨#[32,115,104,117,116]⟩:ByteArray))) else (none)) else (none)))) else (some (⟨#[110,111,110,101]⟩:ByteArray)))
theorem Z58.mono:∀ a0 a1 a2 a3 a4 a5 a6 a7 k,LeO (Z58.f k a0 a1 a2 a3 a4 a5 a6 a7) (Z58.f (k+1) a0 a1 a2 a3 a4 a5 a6 a7):=by
 intro a0 a1 a2 a3 a4 a5 a6 a7 k;unfold Z58.f
 repeat' (with_reducible first|apply Z21.mono|apply Z43.mono|exact lR _|refine lI ?_ ?_|refine lB ?_ fun _=>?_)
set_option maxHeartbeats 60000000 in
set_option maxRecDepth 100000 in
theorem Z58.calls (k:Nat) (aC aG aI aJ aK aN aQ:Int) (aT:Bool) (r:ByteArray) (w:World) (hT:TabI w) (h:Z58.f k aC aG aI aJ aK aN aQ aT=some r) :
  Calls Tryd.prog 22 #[.agg #[aC,aG,aI,aJ,aK,aN,aQ,aT]] w fun e w'=>e=.returned (.string r)∧Below w.heap.size w w':=by
 have cO:=Tryd.underlying41;have cP:=Tryd.underlying25;have HB:=aM (Below.refl w.heap.size w);have H:(if aC=1 then ((Z43.f k aG aI aJ aK aN aQ).bind fun bD=>(some bD)) else (if aC=2 then (if aT=true then ((Z21.f k aG).bind fun aD=>(if 5+aD.size≤9223372036854775807 then (if ((⟨#[103,97,116,101,32]⟩:ByteArray)++aD).size+5≤9223372036854775807 then (some (((⟨#[103,97,116,101,32]⟩:ByteArray)++aD)++(⟨#[32,111,112,101,110]⟩:ByteArray))) else (none)) else (none))) else ((Z21.f k aG).bind fun aE=>(if 5+aE.size≤9223372036854775807 then (if ((⟨#[103,97,116,101,32]⟩:ByteArray)++aE).size+5≤9223372036854775807 then (some (((⟨#[103,97,116,101,32]⟩:ByteArray)++aE)++(⟨#[32,115,104,117,116]⟩:ByteArray))) else (none)) else (none)))) else (some (⟨#[110,111,110,101]⟩:ByteArray))))=some r:=h
 clear h
 by_cases c2:aC=1
 case pos =>
  rw [if_pos c2] at H
  have bL:(aC == 1)=true:=beq_iff_eq.mpr c2;have bM:(aC != 1)=false:=bne_eq_false_iff_eq.mpr c2;clear c2;obtain ⟨bD,bJ,H⟩:=hB H;have A3:=aM bJ;clear bJ;obtain rfl:=Option.some.inj H;go_enter Tryd.func22,Tryd.ntmps22
  go_wp2_with (first|((with_reducible refine gD (N:=1) rfl ?_);refine bE (N:=1) (cs:=#[aC,aG,aI,aJ,aK,aN,aQ,aT]) (t:=41) ?_;intro aV hg w4 hbox hb;have aA:=aM (hbox);have aW:=gF hg HB;have aH:=gF hg HB;replace HB:=rS HB hb;clear hb hbox hg;have cQ:=cA8 aA.out)|((with_reducible refine gC (f:=64) rfl ?_);refine goesL_ (some 13) rfl rfl Tryd.func64 (by kernel_rfl) rfl #[aG,.agg #[aI,aJ,aK,aN],aQ] rfl xR ?_;(with_reducible refine (Z43.calls k aG aI aJ aK aN aQ bD _ (tabI_below hT ?hbt_) A3.out).mono ?_);(case hbt_=>repeat ((with_reducible exact HB.out)));rintro e w6 ⟨rfl,hb⟩;refine ⟨_,rfl,?_⟩;replace aA:=rB aA hb;replace HB:=rS HB hb;(try clear hb)))
  go_ret
  exact ⟨xW,bl HB.out⟩
 rw [if_neg c2] at H
 have bL:(aC == 1)=false:=beq_eq_false_iff_ne.mpr c2;have bM:(aC != 1)=true:=bne_iff_ne.mpr c2
 by_cases c7:aC=2
 case neg =>
  rw [if_neg c7] at H
  have bN:(aC == 2)=false:=beq_eq_false_iff_ne.mpr c7;have bO:(aC != 2)=true:=bne_iff_ne.mpr c7;obtain rfl:=Option.some.inj H;go_enter Tryd.func22,Tryd.ntmps22
  go_wp2_with (((with_reducible refine gD (N:=1) rfl ?_);refine bE (N:=1) (cs:=#[aC,aG,aI,aJ,aK,aN,aQ,aT]) (t:=41) ?_;intro aV hg cR hbox hb;have aA:=aM (hbox);have aW:=gF hg HB;have aH:=gF hg HB;replace HB:=rS HB hb;clear hb hbox hg;have bQ:=cA8 aA.out))
  go_ret
  exact ⟨xW,bl HB.out⟩
 rw [if_pos c7] at H
 have bN:(aC == 2)=true:=beq_iff_eq.mpr c7;have bO:(aC != 2)=false:=bne_eq_false_iff_eq.mpr c7;clear c7
 by_cases c8:aT=true
 case pos =>
  subst c8;replace H:=hP H rfl;obtain ⟨aD,bK,H⟩:=hB H;have A9:=aM bK;clear bK
  by_cases bG:5+aD.size≤9223372036854775807
  case neg =>
   rw [if_neg bG] at H
   exact absurd H (by simp)
  rw [if_pos bG] at H
  have bT:=eq_true bG;have bU:decide (5+aD.size≤9223372036854775807)=true:=decide_eq_true bG
  try have bV:(9223372036854775807<5+aD.size)=False:=eq_false (Nat.not_lt.2 bG)
  by_cases aX:((⟨#[103,97,116,101,32]⟩:ByteArray)++aD).size+5≤9223372036854775807
  case neg =>
   rw [if_neg aX] at H
   exact absurd H (by simp)
  rw [if_pos aX] at H
  have bW:=eq_true aX
  try have bX:(9223372036854775807<5+aD.size+5)=False:=eq_false (by have h_:=aX;have z0_:(⟨#[103,97,116,101,32]⟩:ByteArray).size=5:=rfl;simp only [ByteArray.size_append,z0_] at h_;omega)
  have bY:decide (((⟨#[103,97,116,101,32]⟩:ByteArray)++aD).size+5≤9223372036854775807)=true:=decide_eq_true aX
  try have bZ:(9223372036854775807<((⟨#[103,97,116,101,32]⟩:ByteArray)++aD).size+5)=False:=eq_false (Nat.not_lt.2 aX)
  obtain rfl:=Option.some.inj H;go_enter Tryd.func22,Tryd.ntmps22
  go_wp2_with (first|((with_reducible refine gD (N:=1) rfl ?_);refine bE (N:=1) (cs:=#[aC,aG,aI,aJ,aK,aN,aQ,.bool true]) (t:=41) ?_;intro aV hg cS hbox hb;have aA:=aM (hbox);have aW:=gF hg HB;have aH:=gF hg HB;replace HB:=rS HB hb;clear hb hbox hg;have cA:=cA8 aA.out)|((with_reducible refine gC (f:=34) rfl ?_);refine goesL_ (some 20) rfl rfl Tryd.func34 (by kernel_rfl) rfl #[aG] rfl xR ?_;(with_reducible refine (Z21.calls k aG aD _ (tabI_below hT ?hbt_) A9.out).mono ?_);(case hbt_=>repeat ((with_reducible exact HB.out)));rintro e cT ⟨rfl,hb⟩;refine ⟨_,rfl,?_⟩;replace aA:=rB aA hb;replace HB:=rS HB hb;(try clear hb)))
  go_ret
  exact ⟨xW,bl HB.out⟩
 replace c8:=Bool.eq_false_iff.mpr c8;subst c8;replace H:=hF H;obtain ⟨aE,bI,H⟩:=hB H;have bP:=aM bI;clear bI
 by_cases bH:5+aE.size≤9223372036854775807
 case neg =>
  rw [if_neg bH] at H
  exact absurd H (by simp)
 rw [if_pos bH] at H
 have cC:=eq_true bH;have cD:decide (5+aE.size≤9223372036854775807)=true:=decide_eq_true bH
 try have cE:(9223372036854775807<5+aE.size)=False:=eq_false (Nat.not_lt.2 bH)
 by_cases bA:((⟨#[103,97,116,101,32]⟩:ByteArray)++aE).size+5≤9223372036854775807
 case neg =>
  rw [if_neg bA] at H
  exact absurd H (by simp)
 rw [if_pos bA] at H
 have cG:=eq_true bA
 try have cH:(9223372036854775807<5+aE.size+5)=False:=eq_false (by have h_:=bA;have z0_:(⟨#[103,97,116,101,32]⟩:ByteArray).size=5:=rfl;simp only [ByteArray.size_append,z0_] at h_;omega)
 have cK:decide (((⟨#[103,97,116,101,32]⟩:ByteArray)++aE).size+5≤9223372036854775807)=true:=decide_eq_true bA
 try have cL:(9223372036854775807<((⟨#[103,97,116,101,32]⟩:ByteArray)++aE).size+5)=False:=eq_false (Nat.not_lt.2 bA)
 obtain rfl:=Option.some.inj H;go_enter Tryd.func22,Tryd.ntmps22
 go_wp2_with (first|((with_reducible refine gD (N:=1) rfl ?_);refine bE (N:=1) (cs:=#[aC,aG,aI,aJ,aK,aN,aQ,.bool false]) (t:=41) ?_;intro aV hg cU hbox hb;have aA:=aM (hbox);have aW:=gF hg HB;have aH:=gF hg HB;replace HB:=rS HB hb;clear hb hbox hg;have cN:=cA8 aA.out)|((with_reducible refine gC (f:=34) rfl ?_);refine goesL_ (some 25) rfl rfl Tryd.func34 (by kernel_rfl) rfl #[aG] rfl xR ?_;(with_reducible refine (Z21.calls k aG aE _ (tabI_below hT ?hbt_) bP.out).mono ?_);(case hbt_=>repeat ((with_reducible exact HB.out)));rintro e cV ⟨rfl,hb⟩;refine ⟨_,rfl,?_⟩;replace aA:=rB aA hb;replace HB:=rS HB hb;(try clear hb)))
 go_ret
 exact ⟨xW,bl HB.out⟩

end Go.Proofs.YtljbdchibfjbdaaDoor.PFnIns
