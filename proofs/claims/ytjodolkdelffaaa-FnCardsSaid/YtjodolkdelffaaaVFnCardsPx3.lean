/- A part of the proof of laws.FnCards. No condition beyond what its theorems say. -/
import Derived.Test.YtjodolkdelffaaaVFnCardsPx2
namespace Go.Proofs.Ytjodolkdelffaaa.PFnCards
open Go.RowKit Go.Proofs.YtjodolkdelffaaaW.PrintWords Go.Proofs.YtjodolkdelffaaaW.PrintLast Go.Proofs.YtjodolkdelffaaaW.PrintMore
set_option linter.unusedVariables false
set_option linter.unusedSimpArgs false

def Z9.l0:Nat→List (S72)→Int→Option (Bool)
 | 0,_,_=>none
 | k+1,x0,x3=>if x3<(x0.length:Int) then (if 0≤x3 then ((Z5.f ((rd_T72 x0 x3).f0) 1 9).bind fun aA=>(if aA=true then ((Z5.f ((rd_T72 x0 x3).f1) 1 4).bind fun aC=>(if aC=true then ((Z5.f ((rd_T72 x0 x3).f2) 0 3).bind fun aD=>(if aD=true then ((Z5.f ((rd_T72 x0 x3).f3) 1 20).bind fun aE=>(if aE=true then (if x3 > 0 then (if 0≤(wrap64 (x3 - 1)) then (if (wrap64 (x3 - 1))<(x0.length:Int) then ((Z54.f ((rd_T72 x0 (wrap64 (x3 - 1))).f0) ((rd_T72 x0 (wrap64 (x3 - 1))).f1) ((rd_T72 x0 (wrap64 (x3 - 1))).f2) ((rd_T72 x0 (wrap64 (x3 - 1))).f3) ((rd_T72 x0 x3).f0) ((rd_T72 x0 x3).f1) ((rd_T72 x0 x3).f2) ((rd_T72 x0 x3).f3)).bind fun aG=>(if aG=true then (Z9.l0 k x0 (wrap64 (x3+1))) else (some false))) else (none)) else (none)) else (Z9.l0 k x0 (wrap64 (x3+1)))) else (some false))) else (some false))) else (some false))) else (some false))) else (none)) else (some (decide ((x0.length:Int)≤12)))
def Z9.f (k:Nat) (l0:List (S72)):Option (Bool):=Z9.l0 k l0 0
theorem Z9.mono_l:∀ k,(∀ y0 y1,LeO (Z9.l0 k y0 y1) (Z9.l0 (k+1) y0 y1))
 | 0=>fun _ _ r h=>by simp [Z9.l0] at h
 | k+1=>by
  have ih0:=Z9.mono_l k
  ·intro y0 y1
   unfold Z9.l0
   repeat' (with_reducible first|apply ih0|exact lR _|refine lI ?_ ?_|refine lB ?_ fun _=>?_)
theorem Z9.mono:∀ a0 k,LeO (Z9.f k a0) (Z9.f (k+1) a0):=by
 intro a0 k;have ih0:=Z9.mono_l k;unfold Z9.f
 repeat' (with_reducible apply ih0)
def Z9.T5:Bool × List (List Nat × List Nat):=(true,[([],[]),([0],[0]),([1],[1]),([2],[2]),([3,2],[3]),([4],[4]),([5,4],[4,5]),([6,4,4],[4,6]),([7,4],[4,7]),([4,8],[4,8]),([9,7],[9]),([10],[10]),([11,10],[10,11]),([12,10,10],[10,12]),([13,10],[10,13]),([10,14],[10,14]),([15,13],[15]),([16],[16]),([17,16],[16,17]),([18,16,16],[16,18]),([19,16],[16,19]),([16,20],[16,20]),([21,19],[21]),([22],[22]),([23,22],[22,23]),([24,22,22],[22,24]),([25],[25]),([25],[25]),([27,25],[25,27]),([26,28,25],[25,26,28]),([29,25],[25,29]),([25],[25]),([30,31,25,25],[25,30,31]),([32,25],[25,32]),([25,33,22],[22,25,33]),([22,34],[22,34])])
def Z9.B5:List Nat:=[0,1,3,7,15,31,63,127,255,511,1023,2047,4095,8191,16383,32767,65535,131071,262143,524287,1048575,2097151,4194303,8388607,16777215,33554431,67108863,67108863,201326591,536870911,1073741823,67108863,4294967295,8589934591,17179869183,34359738367]
theorem Z9.tab5:rtab .any (opsOf Try.f46 5)=Z9.T5:=by kernel_rfl
theorem Z9.bits5:waitsOk Z9.T5.2 Z9.B5=true:=by kernel_rfl
set_option maxHeartbeats 60000000 in
set_option maxRecDepth 100000 in
theorem Z9.calls (k:Nat) (A0:Option Addr) (c0:Nat) (l0:List (S72)) (r:Bool) (w:World) (hr0:Kd.C k72 w A0 l0.length l0) (hc0:l0.length≤c0) (h:Z9.f k l0=some r) :
  Calls Try.prog 46 #[.slice A0 l0.length c0] w fun e w'=>e=.returned (.bool r)∧Below w.heap.size w w':=by
 have bM:=aM hr0;clear hr0 hc0;have HB:=aM (Below.refl w.heap.size w);have H:(Z9.l0 k l0 0)=some r:=h;clear h;have H':=aM H;clear H;go_enter Try.func46,Try.ntmps46
 go_wp2
 go_loopg [3] k (fun kq v3 w'=>∃ (aC:Int),v3=.int .i64 aC∧Aside0 (Z9.l0 kq l0 aC=some r)∧Aside0 (kq≤k)∧Aside0 (Below w.heap.size w w'))
 case atStart=>exact ⟨(0),xE,H',⟨Nat.le_refl _⟩,⟨bl HB.out⟩⟩
 case round =>
  clear H';obtain ⟨aC,rfl,HA,bU,HB⟩:=hrel;cases gk with
  | zero=>exact absurd HA.out (by simp [Z9.l0])
  | succ k1 =>
   have H:=HA.out;clear HA;simp only [Z9.l0] at H
   by_cases c2:aC<(l0.length:Int)
   case neg =>
    rw [if_neg c2] at H
    have cG:=decide_eq_false c2;clear c2;obtain rfl:=Option.some.inj H;go_wp2
    go_ret
    exact ⟨xW,bl HB.out⟩
   rw [if_pos c2] at H
   have cG:=decide_eq_true c2;clear c2;obtain ⟨dG,H⟩:=gI H;obtain ⟨cH,cA,H⟩:=hB H;have A4:=aM cA;clear cA
   by_cases c5:cH=true
   case neg =>
    replace c5:=Bool.eq_false_iff.mpr c5;subst c5;replace H:=hF H;obtain rfl:=Option.some.inj H;have aJ:0≤(aC:Int):=dT;have aK:aC<(l0.length:Int):=dT;obtain ⟨aI,bH,aD,aE,aG,aH⟩:=at_T72 bM.out aC aJ aK;cases bH
    replace aD:=xB HB aD;replace aE:=xB HB aE;replace aG:=xB HB aG;replace aH:=xB HB aH;replace aJ:=eq_true aJ;replace aK:=eq_true aK
    try go_wp2_with (((with_reducible refine gD (N:=4) rfl ?_);refine bE (N:=4) (cs:=#[.int .i64 0,.int .i64 0,.int .i64 0,.int .i64 0]) (t:=72) ?_;intro aN hg dI hbox hb;have aA:=aM (hbox);have bJ:=gF hg HB;replace HB:=rS HB hb;clear hb hbox hg;have cV:=cA4 aA.out))
    refine nW (fun W=>Aside0 (W.heap[aN]?=some (.cells #[((rd_T72 l0 aC).f0),((rd_T72 l0 aC).f1),((rd_T72 l0 aC).f2),((rd_T72 l0 aC).f3)] 72 (0,0)))∧Aside0 (Below w.heap.size w W)) ⟨⟨bm aA.out⟩,⟨bl HB.out⟩⟩ ?_
    intro cO nn_;replace aA:=nn_.1;replace HB:=nn_.2;clear nn_;replace aA:=aM (blk_drew aA.out);replace HB:=aM (below_drew1 HB.out);refine start_ (n:=36) (S:=fun w'=>cS4 w' aN (.int .i64 ((rd_T72 l0 aC).f0)) (.int .i64 ((rd_T72 l0 aC).f1)) (.int .i64 ((rd_T72 l0 aC).f2)) (.int .i64 ((rd_T72 l0 aC).f3))) (ds:=[]) (dn 36 0) (by kernel_rfl) rfl rfl ⟨cI aA.out 0,cI aA.out 1,cI aA.out 2,cI aA.out 3⟩ (fun hHeld=>?_);refine with_tabW Z9.tab5 Z9.bits5 (fun HT_ HW_=>?_)
    generalize cO.drew=dJ at aA HB hHeld ⊢
    refine nY (N:=some 15) HT_ ?_;refine tY (N:=some 16) HT_ HW_ hHeld ?_;refine oN (N:=some 17) HT_ (fun K hK=>?_)
    refine goes_ Try.func31 (by kernel_rfl) rfl #[((rd_T72 l0 aC).f0),.int .i64 1,.int .i64 9] (by rfl) rfl rfl xR ?_
    with_reducible refine (Z5.calls ((rd_T72 l0 aC).f0) 1 9 false _ A4.out).mono ?_
    rintro e w' ⟨rfl,⟨nd,rfl⟩⟩;refine ⟨_,rfl,?_⟩;refine hK.out _ _ ⟨cI aA.out 0,cI aA.out 1,cI aA.out 2,cI aA.out 3⟩ (fun hHeld=>?_)
    clear hK K;refine norm_ (a':=?_) ?_ ?_;rotate_left
    ·show Act.put _ (some 17) _=_
     simp only [Act.put,sA,sZ,sS,i64_w,i32_w]
     rfl
    refine nY (N:=some 18) HT_ ?_;refine nY (N:=some 19) HT_ ?_;refine nU (N:=some 20) HT_ ?_;refine nU (N:=some 21) HT_ ?_;refine nU (N:=some 22) HT_ ?_;refine nU (N:=some 23) HT_ ?_;refine nY (N:=some 24) HT_ ?_;refine nY (N:=some 25) HT_ ?_;refine nU (N:=some 26) HT_ ?_;refine nU (N:=some 27) HT_ ?_;refine nU (N:=some 28) HT_ ?_;refine nU (N:=some 29) HT_ ?_;refine nY (N:=some 30) HT_ ?_;refine nY (N:=some 31) HT_ ?_;refine nU (N:=some 32) HT_ ?_;refine nU (N:=some 33) HT_ ?_;refine nU (N:=some 34) HT_ ?_;refine nU (N:=some 35) HT_ ?_;refine nY (N:=some 36) HT_ ?_;refine nY (N:=some 37) HT_ ?_;refine nU (N:=some 38) HT_ ?_;refine nU (N:=some 39) HT_ ?_;refine nU (N:=some 40) HT_ ?_;refine nU (N:=some 41) HT_ ?_;refine nU (N:=some 42) HT_ ?_;refine nU (N:=some 43) HT_ ?_;refine nU (N:=some 44) HT_ ?_;refine nU (N:=some 45) HT_ ?_;refine nU (N:=some 46) HT_ ?_;refine nU (N:=some 47) HT_ ?_;refine nU (N:=some 48) HT_ ?_;refine nU (N:=some 49) HT_ ?_;refine nY (N:=some 50) HT_ ?_;refine done_ (done_of HT_.out (by kernel_rfl)) ?_
    try go_wp2
    go_ret
    exact ⟨xW,bl HB.out⟩
   subst c5;replace H:=hP H rfl;obtain ⟨cK,cC,H⟩:=hB H;have A6:=aM cC;clear cC
   by_cases c7:cK=true
   case neg =>
    replace c7:=Bool.eq_false_iff.mpr c7;subst c7;replace H:=hF H;obtain rfl:=Option.some.inj H;have aJ:0≤(aC:Int):=dT;have aK:aC<(l0.length:Int):=dT;obtain ⟨aI,bH,aD,aE,aG,aH⟩:=at_T72 bM.out aC aJ aK;cases bH
    replace aD:=xB HB aD;replace aE:=xB HB aE;replace aG:=xB HB aG;replace aH:=xB HB aH;replace aJ:=eq_true aJ;replace aK:=eq_true aK
    try go_wp2_with (((with_reducible refine gD (N:=4) rfl ?_);refine bE (N:=4) (cs:=#[.int .i64 0,.int .i64 0,.int .i64 0,.int .i64 0]) (t:=72) ?_;intro aN hg dK hbox hb;have aA:=aM (hbox);have bJ:=gF hg HB;replace HB:=rS HB hb;clear hb hbox hg;have cW:=cA4 aA.out))
    refine nW (fun W=>Aside0 (W.heap[aN]?=some (.cells #[((rd_T72 l0 aC).f0),((rd_T72 l0 aC).f1),((rd_T72 l0 aC).f2),((rd_T72 l0 aC).f3)] 72 (0,0)))∧Aside0 (Below w.heap.size w W)) ⟨⟨bm aA.out⟩,⟨bl HB.out⟩⟩ ?_
    intro cP nn_;replace aA:=nn_.1;replace HB:=nn_.2;clear nn_;replace aA:=aM (blk_drew aA.out);replace HB:=aM (below_drew1 HB.out);refine start_ (n:=36) (S:=fun w'=>cS4 w' aN (.int .i64 ((rd_T72 l0 aC).f0)) (.int .i64 ((rd_T72 l0 aC).f1)) (.int .i64 ((rd_T72 l0 aC).f2)) (.int .i64 ((rd_T72 l0 aC).f3))) (ds:=[]) (dn 36 0) (by kernel_rfl) rfl rfl ⟨cI aA.out 0,cI aA.out 1,cI aA.out 2,cI aA.out 3⟩ (fun hHeld=>?_);refine with_tabW Z9.tab5 Z9.bits5 (fun HT_ HW_=>?_)
    generalize cP.drew=dL at aA HB hHeld ⊢
    refine nY (N:=some 15) HT_ ?_;refine tY (N:=some 16) HT_ HW_ hHeld ?_;refine oN (N:=some 17) HT_ (fun K hK=>?_)
    refine goes_ Try.func31 (by kernel_rfl) rfl #[((rd_T72 l0 aC).f0),.int .i64 1,.int .i64 9] (by rfl) rfl rfl xR ?_
    with_reducible refine (Z5.calls ((rd_T72 l0 aC).f0) 1 9 true _ A4.out).mono ?_
    rintro e w' ⟨rfl,⟨nd,rfl⟩⟩;refine ⟨_,rfl,?_⟩;refine hK.out _ _ ⟨cI aA.out 0,cI aA.out 1,cI aA.out 2,cI aA.out 3⟩ (fun hHeld=>?_)
    clear hK K;refine norm_ (a':=?_) ?_ ?_;rotate_left
    ·show Act.put _ (some 17) _=_
     simp only [Act.put,sA,sZ,sS,i64_w,i32_w]
     rfl
    refine nY (N:=some 18) HT_ ?_;refine nY (N:=some 19) HT_ ?_;refine nY (N:=some 20) HT_ ?_;refine tY (N:=some 21) HT_ HW_ hHeld ?_;refine oN (N:=some 22) HT_ (fun K hK=>?_)
    refine goes_ Try.func31 (by kernel_rfl) rfl #[((rd_T72 l0 aC).f1),.int .i64 1,.int .i64 4] (by rfl) rfl rfl xR ?_
    with_reducible refine (Z5.calls ((rd_T72 l0 aC).f1) 1 4 false _ A6.out).mono ?_
    rintro e w' ⟨rfl,⟨nd,rfl⟩⟩;refine ⟨_,rfl,?_⟩;refine hK.out _ _ ⟨cI aA.out 0,cI aA.out 1,cI aA.out 2,cI aA.out 3⟩ (fun hHeld=>?_)
    clear hK K;refine norm_ (a':=?_) ?_ ?_;rotate_left
    ·show Act.put _ (some 22) _=_
     simp only [Act.put,sA,sZ,sS,i64_w,i32_w]
     rfl
    refine nY (N:=some 23) HT_ ?_;refine nY (N:=some 24) HT_ ?_;refine nY (N:=some 25) HT_ ?_;refine nU (N:=some 26) HT_ ?_;refine nU (N:=some 27) HT_ ?_;refine nU (N:=some 28) HT_ ?_;refine nU (N:=some 29) HT_ ?_;refine nY (N:=some 30) HT_ ?_;refine nY (N:=some 31) HT_ ?_;refine nU (N:=some 32) HT_ ?_;refine nU (N:=some 33) HT_ ?_;refine nU (N:=some 34) HT_ ?_;refine nU (N:=some 35) HT_ ?_;refine nY (N:=some 36) HT_ ?_;refine nY (N:=some 37) HT_ ?_;refine nU (N:=some 38) HT_ ?_;refine nU (N:=some 39) HT_ ?_;refine nU (N:=some 40) HT_ ?_;refine nU (N:=some 41) HT_ ?_;refine nU (N:=some 42) HT_ ?_;refine nU (N:=some 43) HT_ ?_;refine nU (N:=some 44) HT_ ?_;refine nU (N:=some 45) HT_ ?_;refine nU (N:=some 46) HT_ ?_;refine nU (N:=some 47) HT_ ?_;refine nU (N:=some 48) HT_ ?_;refine nU (N:=some 49) HT_ ?_;refine nY (N:=some 50) HT_ ?_;refine done_ (done_of HT_.out (by kernel_rfl)) ?_
    try go_wp2
    go_ret
    exact ⟨xW,bl HB.out⟩
   subst c7;replace H:=hP H rfl;obtain ⟨cL,cD,H⟩:=hB H;have A8:=aM cD;clear cD
   by_cases c9:cL=true
   case neg =>
    replace c9:=Bool.eq_false_iff.mpr c9;subst c9;replace H:=hF H;obtain rfl:=Option.some.inj H;have aJ:0≤(aC:Int):=dT;have aK:aC<(l0.length:Int):=dT;obtain ⟨aI,bH,aD,aE,aG,aH⟩:=at_T72 bM.out aC aJ aK;cases bH
    replace aD:=xB HB aD;replace aE:=xB HB aE;replace aG:=xB HB aG;replace aH:=xB HB aH;replace aJ:=eq_true aJ;replace aK:=eq_true aK
    try go_wp2_with (((with_reducible refine gD (N:=4) rfl ?_);refine bE (N:=4) (cs:=#[.int .i64 0,.int .i64 0,.int .i64 0,.int .i64 0]) (t:=72) ?_;intro aN hg dM hbox hb;have aA:=aM (hbox);have bJ:=gF hg HB;replace HB:=rS HB hb;clear hb hbox hg;have cX:=cA4 aA.out))
    refine nW (fun W=>Aside0 (W.heap[aN]?=some (.cells #[((rd_T72 l0 aC).f0),((rd_T72 l0 aC).f1),((rd_T72 l0 aC).f2),((rd_T72 l0 aC).f3)] 72 (0,0)))∧Aside0 (Below w.heap.size w W)) ⟨⟨bm aA.out⟩,⟨bl HB.out⟩⟩ ?_
    intro cQ nn_;replace aA:=nn_.1;replace HB:=nn_.2;clear nn_;replace aA:=aM (blk_drew aA.out);replace HB:=aM (below_drew1 HB.out);refine start_ (n:=36) (S:=fun w'=>cS4 w' aN (.int .i64 ((rd_T72 l0 aC).f0)) (.int .i64 ((rd_T72 l0 aC).f1)) (.int .i64 ((rd_T72 l0 aC).f2)) (.int .i64 ((rd_T72 l0 aC).f3))) (ds:=[]) (dn 36 0) (by kernel_rfl) rfl rfl ⟨cI aA.out 0,cI aA.out 1,cI aA.out 2,cI aA.out 3⟩ (fun hHeld=>?_);refine with_tabW Z9.tab5 Z9.bits5 (fun HT_ HW_=>?_)
    generalize cQ.drew=dN at aA HB hHeld ⊢
    refine nY (N:=some 15) HT_ ?_;refine tY (N:=some 16) HT_ HW_ hHeld ?_;refine oN (N:=some 17) HT_ (fun K hK=>?_)
    refine goes_ Try.func31 (by kernel_rfl) rfl #[((rd_T72 l0 aC).f0),.int .i64 1,.int .i64 9] (by rfl) rfl rfl xR ?_
    with_reducible refine (Z5.calls ((rd_T72 l0 aC).f0) 1 9 true _ A4.out).mono ?_
    rintro e w' ⟨rfl,⟨nd,rfl⟩⟩;refine ⟨_,rfl,?_⟩;refine hK.out _ _ ⟨cI aA.out 0,cI aA.out 1,cI aA.out 2,cI aA.out 3⟩ (fun hHeld=>?_)
    clear hK K;refine norm_ (a':=?_) ?_ ?_;rotate_left
    ·show Act.put _ (some 17) _=_
     simp only [Act.put,sA,sZ,sS,i64_w,i32_w]
     rfl
    refine nY (N:=some 18) HT_ ?_;refine nY (N:=some 19) HT_ ?_;refine nY (N:=some 20) HT_ ?_;refine tY (N:=some 21) HT_ HW_ hHeld ?_;refine oN (N:=some 22) HT_ (fun K hK=>?_)
    refine goes_ Try.func31 (by kernel_rfl) rfl #[((rd_T72 l0 aC).f1),.int .i64 1,.int .i64 4] (by rfl) rfl rfl xR ?_
    with_reducible refine (Z5.calls ((rd_T72 l0 aC).f1) 1 4 true _ A6.out).mono ?_
    rintro e w' ⟨rfl,⟨nd,rfl⟩⟩;refine ⟨_,rfl,?_⟩;refine hK.out _ _ ⟨cI aA.out 0,cI aA.out 1,cI aA.out 2,cI aA.out 3⟩ (fun hHeld=>?_)
    clear hK K;refine norm_ (a':=?_) ?_ ?_;rotate_left
    ·show Act.put _ (some 22) _=_
     simp only [Act.put,sA,sZ,sS,i64_w,i32_w]
     rfl
    refine nY (N:=some 23) HT_ ?_;refine nY (N:=some 24) HT_ ?_;refine nY (N:=some 25) HT_ ?_;refine nY (N:=some 26) HT_ ?_;refine tY (N:=some 27) HT_ HW_ hHeld ?_;refine oN (N:=some 28) HT_ (fun K hK=>?_)
    refine goes_ Try.func31 (by kernel_rfl) rfl #[((rd_T72 l0 aC).f2),.int .i64 0,.int .i64 3] (by rfl) rfl rfl xR ?_
    with_reducible refine (Z5.calls ((rd_T72 l0 aC).f2) 0 3 false _ A8.out).mono ?_
    rintro e w' ⟨rfl,⟨nd,rfl⟩⟩;refine ⟨_,rfl,?_⟩;refine hK.out _ _ ⟨cI aA.out 0,cI aA.out 1,cI aA.out 2,cI aA.out 3⟩ (fun hHeld=>?_)
    clear hK K;refine norm_ (a':=?_) ?_ ?_;rotate_left
    ·show Act.put _ (some 28) _=_
     simp only [Act.put,sA,sZ,sS,i64_w,i32_w]
     rfl
    refine nY (N:=some 29) HT_ ?_;refine nY (N:=some 30) HT_ ?_;refine nY (N:=some 31) HT_ ?_;refine nU (N:=some 32) HT_ ?_;refine nU (N:=some 33) HT_ ?_;refine nU (N:=some 34) HT_ ?_;refine nU (N:=some 35) HT_ ?_;refine nY (N:=some 36) HT_ ?_;refine nY (N:=some 37) HT_ ?_;refine nU (N:=some 38) HT_ ?_;refine nU (N:=some 39) HT_ ?_;refine nU (N:=some 40) HT_ ?_;refine nU (N:=some 41) HT_ ?_;refine nU (N:=some 42) HT_ ?_;refine nU (N:=some 43) HT_ ?_;refine nU (N:=some 44) HT_ ?_;refine nU (N:=some 45) HT_ ?_;refine nU (N:=some 46) HT_ ?_;refine nU (N:=some 47) HT_ ?_;refine nU (N:=some 48) HT_ ?_;refine nU (N:=some 49) HT_ ?_;refine nY (N:=some 50) HT_ ?_;refine done_ (done_of HT_.out (by kernel_rfl)) ?_
    try go_wp2
    go_ret
    exact ⟨xW,bl HB.out⟩
   subst c9;replace H:=hP H rfl;obtain ⟨cN,bX,H⟩:=hB H;have bP:=aM bX;clear bX
   by_cases bV:cN=true
   case neg =>
    replace bV:=Bool.eq_false_iff.mpr bV;subst bV;replace H:=hF H;obtain rfl:=Option.some.inj H;have aJ:0≤(aC:Int):=dT;have aK:aC<(l0.length:Int):=dT;obtain ⟨aI,bH,aD,aE,aG,aH⟩:=at_T72 bM.out aC aJ aK;cases bH
    replace aD:=xB HB aD;replace aE:=xB HB aE;replace aG:=xB HB aG;replace aH:=xB HB aH;replace aJ:=eq_true aJ;replace aK:=eq_true aK
    try go_wp2_with (((with_reducible refine gD (N:=4) rfl ?_);refine bE (N:=4) (cs:=#[.int .i64 0,.int .i64 0,.int .i64 0,.int .i64 0]) (t:=72) ?_;intro aN hg dO hbox hb;have aA:=aM (hbox);have bJ:=gF hg HB;replace HB:=rS HB hb;clear hb hbox hg;have cY:=cA4 aA.out))
    refine nW (fun W=>Aside0 (W.heap[aN]?=some (.cells #[((rd_T72 l0 aC).f0),((rd_T72 l0 aC).f1),((rd_T72 l0 aC).f2),((rd_T72 l0 aC).f3)] 72 (0,0)))∧Aside0 (Below w.heap.size w W)) ⟨⟨bm aA.out⟩,⟨bl HB.out⟩⟩ ?_
    intro cR nn_;replace aA:=nn_.1;replace HB:=nn_.2;clear nn_;replace aA:=aM (blk_drew aA.out);replace HB:=aM (below_drew1 HB.out);refine start_ (n:=36) (S:=fun w'=>cS4 w' aN (.int .i64 ((rd_T72 l0 aC).f0)) (.int .i64 ((rd_T72 l0 aC).f1)) (.int .i64 ((rd_T72 l0 aC).f2)) (.int .i64 ((rd_T72 l0 aC).f3))) (ds:=[]) (dn 36 0) (by kernel_rfl) rfl rfl ⟨cI aA.out 0,cI aA.out 1,cI aA.out 2,cI aA.out 3⟩ (fun hHeld=>?_);refine with_tabW Z9.tab5 Z9.bits5 (fun HT_ HW_=>?_)
    generalize cR.drew=dP at aA HB hHeld ⊢
    refine nY (N:=some 15) HT_ ?_;refine tY (N:=some 16) HT_ HW_ hHeld ?_;refine oN (N:=some 17) HT_ (fun K hK=>?_)
    refine goes_ Try.func31 (by kernel_rfl) rfl #[((rd_T72 l0 aC).f0),.int .i64 1,.int .i64 9] (by rfl) rfl rfl xR ?_
    with_reducible refine (Z5.calls ((rd_T72 l0 aC).f0) 1 9 true _ A4.out).mono ?_
    rintro e w' ⟨rfl,⟨nd,rfl⟩⟩;refine ⟨_,rfl,?_⟩;refine hK.out _ _ ⟨cI aA.out 0,cI aA.out 1,cI aA.out 2,cI aA.out 3⟩ (fun hHeld=>?_)
    clear hK K;refine norm_ (a':=?_) ?_ ?_;rotate_left
    ·show Act.put _ (some 17) _=_
     simp only [Act.put,sA,sZ,sS,i64_w,i32_w]
     rfl
    refine nY (N:=some 18) HT_ ?_;refine nY (N:=some 19) HT_ ?_;refine nY (N:=some 20) HT_ ?_;refine tY (N:=some 21) HT_ HW_ hHeld ?_;refine oN (N:=some 22) HT_ (fun K hK=>?_)
    refine goes_ Try.func31 (by kernel_rfl) rfl #[((rd_T72 l0 aC).f1),.int .i64 1,.int .i64 4] (by rfl) rfl rfl xR ?_
    with_reducible refine (Z5.calls ((rd_T72 l0 aC).f1) 1 4 true _ A6.out).mono ?_
    rintro e w' ⟨rfl,⟨nd,rfl⟩⟩;refine ⟨_,rfl,?_⟩;refine hK.out _ _ ⟨cI aA.out 0,cI aA.out 1,cI aA.out 2,cI aA.out 3⟩ (fun hHeld=>?_)
    clear hK K;refine norm_ (a':=?_) ?_ ?_;rotate_left
    ·show Act.put _ (some 22) _=_
     simp only [Act.put,sA,sZ,sS,i64_w,i32_w]
     rfl
    refine nY (N:=some 23) HT_ ?_;refine nY (N:=some 24) HT_ ?_;refine nY (N:=some 25) HT_ ?_;refine nY (N:=some 26) HT_ ?_;refine tY (N:=some 27) HT_ HW_ hHeld ?_;refine oN (N:=some 28) HT_ (fun K hK=>?_)
    refine goes_ Try.func31 (by kernel_rfl) rfl #[((rd_T72 l0 aC).f2),.int .i64 0,.int .i64 3] (by rfl) rfl rfl xR ?_
    with_reducible refine (Z5.calls ((rd_T72 l0 aC).f2) 0 3 true _ A8.out).mono ?_
    rintro e w' ⟨rfl,⟨nd,rfl⟩⟩;refine ⟨_,rfl,?_⟩;refine hK.out _ _ ⟨cI aA.out 0,cI aA.out 1,cI aA.out 2,cI aA.out 3⟩ (fun hHeld=>?_)
    clear hK K;refine norm_ (a':=?_) ?_ ?_;rotate_left
    ·show Act.put _ (some 28) _=_
     simp only [Act.put,sA,sZ,sS,i64_w,i32_w]
     rfl
    refine nY (N:=some 29) HT_ ?_;refine nY (N:=some 30) HT_ ?_;refine nY (N:=some 31) HT_ ?_;refine nY (N:=some 32) HT_ ?_;refine tY (N:=some 33) HT_ HW_ hHeld ?_;refine oN (N:=some 34) HT_ (fun K hK=>?_)
    refine goes_ Try.func31 (by kernel_rfl) rfl #[((rd_T72 l0 aC).f3),.int .i64 1,.int .i64 20] (by rfl) rfl rfl xR ?_
    with_reducible refine (Z5.calls ((rd_T72 l0 aC).f3) 1 20 false _ bP.out).mono ?_
    rintro e w' ⟨rfl,⟨nd,rfl⟩⟩;refine ⟨_,rfl,?_⟩;refine hK.out _ _ ⟨cI aA.out 0,cI aA.out 1,cI aA.out 2,cI aA.out 3⟩ (fun hHeld=>?_)
    clear hK K;refine norm_ (a':=?_) ?_ ?_;rotate_left
    ·show Act.put _ (some 34) _=_
     simp only [Act.put,sA,sZ,sS,i64_w,i32_w]
     rfl
    refine nY (N:=some 35) HT_ ?_;refine nY (N:=some 36) HT_ ?_;refine nY (N:=some 37) HT_ ?_;refine nU (N:=some 38) HT_ ?_;refine nU (N:=some 39) HT_ ?_;refine nU (N:=some 40) HT_ ?_;refine nU (N:=some 41) HT_ ?_;refine nU (N:=some 42) HT_ ?_;refine nU (N:=some 43) HT_ ?_;refine nU (N:=some 44) HT_ ?_;refine nU (N:=some 45) HT_ ?_;refine nU (N:=some 46) HT_ ?_;refine nU (N:=some 47) HT_ ?_;refine nU (N:=some 48) HT_ ?_;refine nU (N:=some 49) HT_ ?_;refine nY (N:=some 50) HT_ ?_;refine done_ (done_of HT_.out (by kernel_rfl)) ?_
    try go_wp2
    go_ret
    exact ⟨xW,bl HB.out⟩
   subst bV;replace H:=hP H rfl
   by_cases bN:aC > 0
   case neg =>
    rw [if_neg bN] at H
    have bZ:=decide_eq_false bN;clear bN;have H':=aM H;clear H;have aJ:0≤(aC:Int):=dT;have aK:aC<(l0.length:Int):=dT;obtain ⟨aI,bH,aD,aE,aG,aH⟩:=at_T72 bM.out aC aJ aK;cases bH
    replace aD:=xB HB aD;replace aE:=xB HB aE;replace aG:=xB HB aG;replace aH:=xB HB aH;replace aJ:=eq_true aJ;replace aK:=eq_true aK
    try go_wp2_with (((with_reducible refine gD (N:=4) rfl ?_);refine bE (N:=4) (cs:=#[.int .i64 0,.int .i64 0,.int .i64 0,.int .i64 0]) (t:=72) ?_;intro aN hg dQ hbox hb;have aA:=aM (hbox);have bJ:=gF hg HB;replace HB:=rS HB hb;clear hb hbox hg;have dA:=cA4 aA.out))
    refine nW (fun W=>Aside0 (W.heap[aN]?=some (.cells #[((rd_T72 l0 aC).f0),((rd_T72 l0 aC).f1),((rd_T72 l0 aC).f2),((rd_T72 l0 aC).f3)] 72 (0,0)))∧Aside0 (Below w.heap.size w W)) ⟨⟨bm aA.out⟩,⟨bl HB.out⟩⟩ ?_
    intro cS nn_;replace aA:=nn_.1;replace HB:=nn_.2;clear nn_;replace aA:=aM (blk_drew aA.out);replace HB:=aM (below_drew1 HB.out);refine start_ (n:=36) (S:=fun w'=>cS4 w' aN (.int .i64 ((rd_T72 l0 aC).f0)) (.int .i64 ((rd_T72 l0 aC).f1)) (.int .i64 ((rd_T72 l0 aC).f2)) (.int .i64 ((rd_T72 l0 aC).f3))) (ds:=[]) (dn 36 0) (by kernel_rfl) rfl rfl ⟨cI aA.out 0,cI aA.out 1,cI aA.out 2,cI aA.out 3⟩ (fun hHeld=>?_);refine with_tabW Z9.tab5 Z9.bits5 (fun HT_ HW_=>?_)
    generalize cS.drew=dR at aA HB hHeld ⊢
    refine nY (N:=some 15) HT_ ?_;refine tY (N:=some 16) HT_ HW_ hHeld ?_;refine oN (N:=some 17) HT_ (fun K hK=>?_)
    refine goes_ Try.func31 (by kernel_rfl) rfl #[((rd_T72 l0 aC).f0),.int .i64 1,.int .i64 9] (by rfl) rfl rfl xR ?_
    with_reducible refine (Z5.calls ((rd_T72 l0 aC).f0) 1 9 true _ A4.out).mono ?_
    rintro e w' ⟨rfl,⟨nd,rfl⟩⟩;refine ⟨_,rfl,?_⟩;refine hK.out _ _ ⟨cI aA.out 0,cI aA.out 1,cI aA.out 2,cI aA.out 3⟩ (fun hHeld=>?_)
    clear hK K;refine norm_ (a':=?_) ?_ ?_;rotate_left
    ·show Act.put _ (some 17) _=_
     simp only [Act.put,sA,sZ,sS,i64_w,i32_w]
     rfl
    refine nY (N:=some 18) HT_ ?_;refine nY (N:=some 19) HT_ ?_;refine nY (N:=some 20) HT_ ?_;refine tY (N:=some 21) HT_ HW_ hHeld ?_;refine oN (N:=some 22) HT_ (fun K hK=>?_)
    refine goes_ Try.func31 (by kernel_rfl) rfl #[((rd_T72 l0 aC).f1),.int .i64 1,.int .i64 4] (by rfl) rfl rfl xR ?_
    with_reducible refine (Z5.calls ((rd_T72 l0 aC).f1) 1 4 true _ A6.out).mono ?_
    rintro e w' ⟨rfl,⟨nd,rfl⟩⟩;refine ⟨_,rfl,?_⟩;refine hK.out _ _ ⟨cI aA.out 0,cI aA.out 1,cI aA.out 2,cI aA.out 3⟩ (fun hHeld=>?_)
    clear hK K;refine norm_ (a':=?_) ?_ ?_;rotate_left
    ·show Act.put _ (some 22) _=_
     simp only [Act.put,sA,sZ,sS,i64_w,i32_w]
     rfl
    refine nY (N:=some 23) HT_ ?_;refine nY (N:=some 24) HT_ ?_;refine nY (N:=some 25) HT_ ?_;refine nY (N:=some 26) HT_ ?_;refine tY (N:=some 27) HT_ HW_ hHeld ?_;refine oN (N:=some 28) HT_ (fun K hK=>?_)
    refine goes_ Try.func31 (by kernel_rfl) rfl #[((rd_T72 l0 aC).f2),.int .i64 0,.int .i64 3] (by rfl) rfl rfl xR ?_
    with_reducible refine (Z5.calls ((rd_T72 l0 aC).f2) 0 3 true _ A8.out).mono ?_
    rintro e w' ⟨rfl,⟨nd,rfl⟩⟩;refine ⟨_,rfl,?_⟩;refine hK.out _ _ ⟨cI aA.out 0,cI aA.out 1,cI aA.out 2,cI aA.out 3⟩ (fun hHeld=>?_)
    clear hK K;refine norm_ (a':=?_) ?_ ?_;rotate_left
    ·show Act.put _ (some 28) _=_
     simp only [Act.put,sA,sZ,sS,i64_w,i32_w]
     rfl
    refine nY (N:=some 29) HT_ ?_;refine nY (N:=some 30) HT_ ?_;refine nY (N:=some 31) HT_ ?_;refine nY (N:=some 32) HT_ ?_;refine tY (N:=some 33) HT_ HW_ hHeld ?_;refine oN (N:=some 34) HT_ (fun K hK=>?_)
    refine goes_ Try.func31 (by kernel_rfl) rfl #[((rd_T72 l0 aC).f3),.int .i64 1,.int .i64 20] (by rfl) rfl rfl xR ?_
    with_reducible refine (Z5.calls ((rd_T72 l0 aC).f3) 1 20 true _ bP.out).mono ?_
    rintro e w' ⟨rfl,⟨nd,rfl⟩⟩;refine ⟨_,rfl,?_⟩;refine hK.out _ _ ⟨cI aA.out 0,cI aA.out 1,cI aA.out 2,cI aA.out 3⟩ (fun hHeld=>?_)
    clear hK K;refine norm_ (a':=?_) ?_ ?_;rotate_left
    ·show Act.put _ (some 34) _=_
     simp only [Act.put,sA,sZ,sS,i64_w,i32_w]
     rfl
    refine nY (N:=some 35) HT_ ?_;refine nY (N:=some 36) HT_ ?_;refine nY (N:=some 37) HT_ ?_;refine nY (N:=some 38) HT_ ?_;refine nY (N:=some 39) HT_ ?_;refine nY (N:=some 40) HT_ ?_;refine nU (N:=some 41) HT_ ?_;refine nU (N:=some 42) HT_ ?_;refine nU (N:=some 43) HT_ ?_;refine nU (N:=some 44) HT_ ?_;refine nU (N:=some 45) HT_ ?_;refine nU (N:=some 46) HT_ ?_;refine nU (N:=some 47) HT_ ?_;refine nU (N:=some 48) HT_ ?_;refine nY (N:=some 49) HT_ ?_;refine nY (N:=some 50) HT_ ?_;refine done_ (done_of HT_.out (by kernel_rfl)) ?_
    try go_wp2
    go_roundg k1
    case measure=>have:=bU.out;omega
    case rel=>exact ⟨(wS aC),xE,H',⟨by have:=bU.out;omega⟩,⟨bl HB.out⟩⟩
   rw [if_pos bN] at H
   have bZ:=decide_eq_true bN;clear bN;obtain ⟨ji13,hji13⟩:∃ j_:Int,(wrap64 (aC - 1))=j_:=⟨_,rfl⟩;replace H:(if 0≤(ji13) then (if (ji13)<(l0.length:Int) then ((Z54.f ((rd_T72 l0 (ji13)).f0) ((rd_T72 l0 (ji13)).f1) ((rd_T72 l0 (ji13)).f2) ((rd_T72 l0 (ji13)).f3) ((rd_T72 l0 aC).f0) ((rd_T72 l0 aC).f1) ((rd_T72 l0 aC).f2) ((rd_T72 l0 aC).f3)).bind fun bQ=>(if bQ=true then (Z9.l0 k1 l0 (wS aC)) else (some false))) else (none)) else (none))=some r:=by (rw [hji13] at H;exact H)
   have hji13w:(IntKind.i64.wrap (aC - 1))=ji13:=(i64_w _).trans hji13;obtain ⟨dB,H⟩:=gI H;obtain ⟨dC,H⟩:=gI H;obtain ⟨bQ,bY,H⟩:=hB H;have cE:=aM bY;clear bY
   by_cases bW:bQ=true
   case neg =>
    replace bW:=Bool.eq_false_iff.mpr bW;subst bW;replace H:=hF H;obtain rfl:=Option.some.inj H;have aJ:0≤(aC:Int):=dT;have aK:aC<(l0.length:Int):=dT;obtain ⟨aI,bH,aD,aE,aG,aH⟩:=at_T72 bM.out aC aJ aK;cases bH
    replace aD:=xB HB aD;replace aE:=xB HB aE;replace aG:=xB HB aG;replace aH:=xB HB aH;replace aJ:=eq_true aJ;replace aK:=eq_true aK
    try go_wp2_with (((with_reducible refine gD (N:=4) rfl ?_);refine bE (N:=4) (cs:=#[.int .i64 0,.int .i64 0,.int .i64 0,.int .i64 0]) (t:=72) ?_;intro aN hg dS hbox hb;have aA:=aM (hbox);have bJ:=gF hg HB;replace HB:=rS HB hb;clear hb hbox hg;have dD:=cA4 aA.out))
    refine nW (fun W=>Aside0 (W.heap[aN]?=some (.cells #[((rd_T72 l0 aC).f0),((rd_T72 l0 aC).f1),((rd_T72 l0 aC).f2),((rd_T72 l0 aC).f3)] 72 (0,0)))∧Aside0 (Below w.heap.size w W)) ⟨⟨bm aA.out⟩,⟨bl HB.out⟩⟩ ?_
    intro cT nn_;replace aA:=nn_.1;replace HB:=nn_.2;clear nn_;replace aA:=aM (blk_drew aA.out);replace HB:=aM (below_drew1 HB.out);have bK:0≤((ji13):Int):=dT;have bL:(ji13)<(l0.length:Int):=dT;obtain ⟨bO,bT,aX,bA,bD,bG⟩:=at_T72 bM.out (ji13) bK bL;have aQ:=bG;have aT:=bD;have aV:=bA;have aW:=aX;obtain rfl:aI=bO:=(by injection bT)
    replace aX:=xB HB aX;replace bA:=xB HB bA;replace bD:=xB HB bD;replace bG:=xB HB bG;replace bK:=eq_true bK;replace bL:=eq_true bL;refine start_ (n:=36) (S:=fun w'=>cT4 w' aN (.int .i64 ((rd_T72 l0 aC).f0)) (.int .i64 ((rd_T72 l0 aC).f1)) (.int .i64 ((rd_T72 l0 aC).f2)) (.int .i64 ((rd_T72 l0 aC).f3)) (w'.cell? (aI.add (((ji13)).toNat*4))=some ((rd_T72 l0 (ji13)).f0)∧w'.cell? ⟨(aI.add (((ji13)).toNat*4)).block,(aI.add (((ji13)).toNat*4)).off+1,none⟩=some ((rd_T72 l0 (ji13)).f1)∧w'.cell? ⟨(aI.add (((ji13)).toNat*4)).block,(aI.add (((ji13)).toNat*4)).off+2,none⟩=some ((rd_T72 l0 (ji13)).f2)∧w'.cell? ⟨(aI.add (((ji13)).toNat*4)).block,(aI.add (((ji13)).toNat*4)).off+3,none⟩=some ((rd_T72 l0 (ji13)).f3))) (ds:=[]) (dn 36 0) (by kernel_rfl) rfl rfl ⟨cI aA.out 0,cI aA.out 1,cI aA.out 2,cI aA.out 3,(xB HB aW :),(xB HB aV :),(xB HB aT :),(xB HB aQ :)⟩ (fun hHeld=>?_);refine with_tabW Z9.tab5 Z9.bits5 (fun HT_ HW_=>?_)
    generalize cT.drew=dU at aA HB aX bA bD bG hHeld ⊢
    refine nY (N:=some 15) HT_ ?_;refine tY (N:=some 16) HT_ HW_ hHeld ?_;refine oN (N:=some 17) HT_ (fun K hK=>?_)
    refine goes_ Try.func31 (by kernel_rfl) rfl #[((rd_T72 l0 aC).f0),.int .i64 1,.int .i64 9] (by rfl) rfl rfl xR ?_
    with_reducible refine (Z5.calls ((rd_T72 l0 aC).f0) 1 9 true _ A4.out).mono ?_
    rintro e w' ⟨rfl,⟨nd,rfl⟩⟩;refine ⟨_,rfl,?_⟩;refine hK.out _ _ ⟨cI aA.out 0,cI aA.out 1,cI aA.out 2,cI aA.out 3,(xB HB aW :),(xB HB aV :),(xB HB aT :),(xB HB aQ :)⟩ (fun hHeld=>?_)
    clear hK K;refine norm_ (a':=?_) ?_ ?_;rotate_left
    ·show Act.put _ (some 17) _=_
     simp only [Act.put,sA,sZ,sS,i64_w,i32_w]
     rfl
    refine nY (N:=some 18) HT_ ?_;refine nY (N:=some 19) HT_ ?_;refine nY (N:=some 20) HT_ ?_;refine tY (N:=some 21) HT_ HW_ hHeld ?_;refine oN (N:=some 22) HT_ (fun K hK=>?_)
    refine goes_ Try.func31 (by kernel_rfl) rfl #[((rd_T72 l0 aC).f1),.int .i64 1,.int .i64 4] (by rfl) rfl rfl xR ?_
    with_reducible refine (Z5.calls ((rd_T72 l0 aC).f1) 1 4 true _ A6.out).mono ?_
    rintro e w' ⟨rfl,⟨nd,rfl⟩⟩;refine ⟨_,rfl,?_⟩;refine hK.out _ _ ⟨cI aA.out 0,cI aA.out 1,cI aA.out 2,cI aA.out 3,(xB HB aW :),(xB HB aV :),(xB HB aT :),(xB HB aQ :)⟩ (fun hHeld=>?_)
    clear hK K;refine norm_ (a':=?_) ?_ ?_;rotate_left
    ·show Act.put _ (some 22) _=_
     simp only [Act.put,sA,sZ,sS,i64_w,i32_w]
     rfl
    refine nY (N:=some 23) HT_ ?_;refine nY (N:=some 24) HT_ ?_;refine nY (N:=some 25) HT_ ?_;refine nY (N:=some 26) HT_ ?_;refine tY (N:=some 27) HT_ HW_ hHeld ?_;refine oN (N:=some 28) HT_ (fun K hK=>?_)
    refine goes_ Try.func31 (by kernel_rfl) rfl #[((rd_T72 l0 aC).f2),.int .i64 0,.int .i64 3] (by rfl) rfl rfl xR ?_
    with_reducible refine (Z5.calls ((rd_T72 l0 aC).f2) 0 3 true _ A8.out).mono ?_
    rintro e w' ⟨rfl,⟨nd,rfl⟩⟩;refine ⟨_,rfl,?_⟩;refine hK.out _ _ ⟨cI aA.out 0,cI aA.out 1,cI aA.out 2,cI aA.out 3,(xB HB aW :),(xB HB aV :),(xB HB aT :),(xB HB aQ :)⟩ (fun hHeld=>?_)
    clear hK K;refine norm_ (a':=?_) ?_ ?_;rotate_left
    ·show Act.put _ (some 28) _=_
     simp only [Act.put,sA,sZ,sS,i64_w,i32_w]
     rfl
    refine nY (N:=some 29) HT_ ?_;refine nY (N:=some 30) HT_ ?_;refine nY (N:=some 31) HT_ ?_;refine nY (N:=some 32) HT_ ?_;refine tY (N:=some 33) HT_ HW_ hHeld ?_;refine oN (N:=some 34) HT_ (fun K hK=>?_)
    refine goes_ Try.func31 (by kernel_rfl) rfl #[((rd_T72 l0 aC).f3),.int .i64 1,.int .i64 20] (by rfl) rfl rfl xR ?_
    with_reducible refine (Z5.calls ((rd_T72 l0 aC).f3) 1 20 true _ bP.out).mono ?_
    rintro e w' ⟨rfl,⟨nd,rfl⟩⟩;refine ⟨_,rfl,?_⟩;refine hK.out _ _ ⟨cI aA.out 0,cI aA.out 1,cI aA.out 2,cI aA.out 3,(xB HB aW :),(xB HB aV :),(xB HB aT :),(xB HB aQ :)⟩ (fun hHeld=>?_)
    clear hK K;refine norm_ (a':=?_) ?_ ?_;rotate_left
    ·show Act.put _ (some 34) _=_
     simp only [Act.put,sA,sZ,sS,i64_w,i32_w]
     rfl
    refine nY (N:=some 35) HT_ ?_;refine nY (N:=some 36) HT_ ?_;refine nY (N:=some 37) HT_ ?_;refine nY (N:=some 38) HT_ ?_;refine nY (N:=some 39) HT_ ?_;refine nY (N:=some 40) HT_ ?_;refine nY (N:=some 41) HT_ ?_;refine nY (N:=some 42) HT_ ?_;refine nY (N:=some 43) HT_ ?_;refine nY (N:=some 44) HT_ ?_;refine tY (N:=some 45) HT_ HW_ hHeld ?_;refine tY (N:=some 46) HT_ HW_ hHeld ?_;refine oN (N:=some 47) HT_ (fun K hK=>?_)
    refine goes_ Try.func64 (by kernel_rfl) rfl #[.agg #[((rd_T72 l0 (ji13)).f0),((rd_T72 l0 (ji13)).f1),((rd_T72 l0 (ji13)).f2),((rd_T72 l0 (ji13)).f3)],.agg #[((rd_T72 l0 aC).f0),((rd_T72 l0 aC).f1),((rd_T72 l0 aC).f2),((rd_T72 l0 aC).f3)]] (by rfl) rfl rfl (by (try simp only [List.map_toArray,List.map_cons,List.map_nil]);rfl) ?_
    with_reducible refine (Z54.calls ((rd_T72 l0 (ji13)).f0) ((rd_T72 l0 (ji13)).f1) ((rd_T72 l0 (ji13)).f2) ((rd_T72 l0 (ji13)).f3) ((rd_T72 l0 aC).f0) ((rd_T72 l0 aC).f1) ((rd_T72 l0 aC).f2) ((rd_T72 l0 aC).f3) false _ cE.out).mono ?_
    rintro e dV ⟨rfl,hb⟩;refine ⟨_,rfl,?_⟩;replace aA:=rB aA hb;replace HB:=rS HB hb
    (try clear hb)
    refine hK.out _ _ ⟨cI aA.out 0,cI aA.out 1,cI aA.out 2,cI aA.out 3,(xB HB aW :),(xB HB aV :),(xB HB aT :),(xB HB aQ :)⟩ (fun hHeld=>?_)
    clear hK K;refine norm_ (a':=?_) ?_ ?_;rotate_left
    ·show Act.put _ (some 47) _=_
     simp only [Act.put,sA,sZ,sS,i64_w,i32_w]
     rfl
    refine nY (N:=some 48) HT_ ?_;refine nY (N:=some 49) HT_ ?_;refine nY (N:=some 50) HT_ ?_;refine done_ (done_of HT_.out (by kernel_rfl)) ?_
    try go_wp2
    go_ret
    exact ⟨by rfl,bl HB.out⟩
   subst bW;replace H:=hP H rfl;have H':=aM H;clear H;have aJ:0≤(aC:Int):=dT;have aK:aC<(l0.length:Int):=dT;obtain ⟨aI,bH,aD,aE,aG,aH⟩:=at_T72 bM.out aC aJ aK;cases bH
   replace aD:=xB HB aD;replace aE:=xB HB aE;replace aG:=xB HB aG;replace aH:=xB HB aH;replace aJ:=eq_true aJ;replace aK:=eq_true aK
   try go_wp2_with (((with_reducible refine gD (N:=4) rfl ?_);refine bE (N:=4) (cs:=#[.int .i64 0,.int .i64 0,.int .i64 0,.int .i64 0]) (t:=72) ?_;intro aN hg dW hbox hb;have aA:=aM (hbox);have bJ:=gF hg HB;replace HB:=rS HB hb;clear hb hbox hg;have dE:=cA4 aA.out))
   refine nW (fun W=>Aside0 (W.heap[aN]?=some (.cells #[((rd_T72 l0 aC).f0),((rd_T72 l0 aC).f1),((rd_T72 l0 aC).f2),((rd_T72 l0 aC).f3)] 72 (0,0)))∧Aside0 (Below w.heap.size w W)) ⟨⟨bm aA.out⟩,⟨bl HB.out⟩⟩ ?_
   intro cU nn_;replace aA:=nn_.1;replace HB:=nn_.2;clear nn_;replace aA:=aM (blk_drew aA.out);replace HB:=aM (below_drew1 HB.out);have bK:0≤((ji13):Int):=dT;have bL:(ji13)<(l0.length:Int):=dT;obtain ⟨bO,bT,aX,bA,bD,bG⟩:=at_T72 bM.out (ji13) bK bL;have aQ:=bG;have aT:=bD;have aV:=bA;have aW:=aX;obtain rfl:aI=bO:=(by injection bT)
   replace aX:=xB HB aX;replace bA:=xB HB bA;replace bD:=xB HB bD;replace bG:=xB HB bG;replace bK:=eq_true bK;replace bL:=eq_true bL;refine start_ (n:=36) (S:=fun w'=>cT4 w' aN (.int .i64 ((rd_T72 l0 aC).f0)) (.int .i64 ((rd_T72 l0 aC).f1)) (.int .i64 ((rd_T72 l0 aC).f2)) (.int .i64 ((rd_T72 l0 aC).f3)) (w'.cell? (aI.add (((ji13)).toNat*4))=some ((rd_T72 l0 (ji13)).f0)∧w'.cell? ⟨(aI.add (((ji13)).toNat*4)).block,(aI.add (((ji13)).toNat*4)).off+1,none⟩=some ((rd_T72 l0 (ji13)).f1)∧w'.cell? ⟨(aI.add (((ji13)).toNat*4)).block,(aI.add (((ji13)).toNat*4)).off+2,none⟩=some ((rd_T72 l0 (ji13)).f2)∧w'.cell? ⟨(aI.add (((ji13)).toNat*4)).block,(aI.add (((ji13)).toNat*4)).off+3,none⟩=some ((rd_T72 l0 (ji13)).f3))) (ds:=[]) (dn 36 0) (by kernel_rfl) rfl rfl ⟨cI aA.out 0,cI aA.out 1,cI aA.out 2,cI aA.out 3,(xB HB aW :),(xB HB aV :),(xB HB aT :),(xB HB aQ :)⟩ (fun hHeld=>?_);refine with_tabW Z9.tab5 Z9.bits5 (fun HT_ HW_=>?_)
   generalize cU.drew=dX at aA HB aX bA bD bG hHeld ⊢
   refine nY (N:=some 15) HT_ ?_;refine tY (N:=some 16) HT_ HW_ hHeld ?_;refine oN (N:=some 17) HT_ (fun K hK=>?_)
   refine goes_ Try.func31 (by kernel_rfl) rfl #[((rd_T72 l0 aC).f0),.int .i64 1,.int .i64 9] (by rfl) rfl rfl xR ?_
   with_reducible refine (Z5.calls ((rd_T72 l0 aC).f0) 1 9 true _ A4.out).mono ?_
   rintro e w' ⟨rfl,⟨nd,rfl⟩⟩;refine ⟨_,rfl,?_⟩;refine hK.out _ _ ⟨cI aA.out 0,cI aA.out 1,cI aA.out 2,cI aA.out 3,(xB HB aW :),(xB HB aV :),(xB HB aT :),(xB HB aQ :)⟩ (fun hHeld=>?_)
   clear hK K;refine norm_ (a':=?_) ?_ ?_;rotate_left
   ·show Act.put _ (some 17) _=_
    simp only [Act.put,sA,sZ,sS,i64_w,i32_w]
    rfl
   refine nY (N:=some 18) HT_ ?_;refine nY (N:=some 19) HT_ ?_;refine nY (N:=some 20) HT_ ?_;refine tY (N:=some 21) HT_ HW_ hHeld ?_;refine oN (N:=some 22) HT_ (fun K hK=>?_)
   refine goes_ Try.func31 (by kernel_rfl) rfl #[((rd_T72 l0 aC).f1),.int .i64 1,.int .i64 4] (by rfl) rfl rfl xR ?_
   with_reducible refine (Z5.calls ((rd_T72 l0 aC).f1) 1 4 true _ A6.out).mono ?_
   rintro e w' ⟨rfl,⟨nd,rfl⟩⟩;refine ⟨_,rfl,?_⟩;refine hK.out _ _ ⟨cI aA.out 0,cI aA.out 1,cI aA.out 2,cI aA.out 3,(xB HB aW :),(xB HB aV :),(xB HB aT :),(xB HB aQ :)⟩ (fun hHeld=>?_)
   clear hK K;refine norm_ (a':=?_) ?_ ?_;rotate_left
   ·show Act.put _ (some 22) _=_
    simp only [Act.put,sA,sZ,sS,i64_w,i32_w]
    rfl
   refine nY (N:=some 23) HT_ ?_;refine nY (N:=some 24) HT_ ?_;refine nY (N:=some 25) HT_ ?_;refine nY (N:=some 26) HT_ ?_;refine tY (N:=some 27) HT_ HW_ hHeld ?_;refine oN (N:=some 28) HT_ (fun K hK=>?_)
   refine goes_ Try.func31 (by kernel_rfl) rfl #[((rd_T72 l0 aC).f2),.int .i64 0,.int .i64 3] (by rfl) rfl rfl xR ?_
   with_reducible refine (Z5.calls ((rd_T72 l0 aC).f2) 0 3 true _ A8.out).mono ?_
   rintro e w' ⟨rfl,⟨nd,rfl⟩⟩;refine ⟨_,rfl,?_⟩;refine hK.out _ _ ⟨cI aA.out 0,cI aA.out 1,cI aA.out 2,cI aA.out 3,(xB HB aW :),(xB HB aV :),(xB HB aT :),(xB HB aQ :)⟩ (fun hHeld=>?_)
   clear hK K;refine norm_ (a':=?_) ?_ ?_;rotate_left
   ·show Act.put _ (some 28) _=_
    simp only [Act.put,sA,sZ,sS,i64_w,i32_w]
    rfl
   refine nY (N:=some 29) HT_ ?_;refine nY (N:=some 30) HT_ ?_;refine nY (N:=some 31) HT_ ?_;refine nY (N:=some 32) HT_ ?_;refine tY (N:=some 33) HT_ HW_ hHeld ?_;refine oN (N:=some 34) HT_ (fun K hK=>?_)
   refine goes_ Try.func31 (by kernel_rfl) rfl #[((rd_T72 l0 aC).f3),.int .i64 1,.int .i64 20] (by rfl) rfl rfl xR ?_
   with_reducible refine (Z5.calls ((rd_T72 l0 aC).f3) 1 20 true _ bP.out).mono ?_
   rintro e w' ⟨rfl,⟨nd,rfl⟩⟩;refine ⟨_,rfl,?_⟩;refine hK.out _ _ ⟨cI aA.out 0,cI aA.out 1,cI aA.out 2,cI aA.out 3,(xB HB aW :),(xB HB aV :),(xB HB aT :),(xB HB aQ :)⟩ (fun hHeld=>?_)
   clear hK K;refine norm_ (a':=?_) ?_ ?_;rotate_left
   ·show Act.put _ (some 34) _=_
    simp only [Act.put,sA,sZ,sS,i64_w,i32_w]
    rfl
   refine nY (N:=some 35) HT_ ?_;refine nY (N:=some 36) HT_ ?_;refine nY (N:=some 37) HT_ ?_;refine nY (N:=some 38) HT_ ?_;refine nY (N:=some 39) HT_ ?_;refine nY (N:=some 40) HT_ ?_;refine nY (N:=some 41) HT_ ?_;refine nY (N:=some 42) HT_ ?_;refine nY (N:=some 43) HT_ ?_;refine nY (N:=some 44) HT_ ?_;refine tY (N:=some 45) HT_ HW_ hHeld ?_;refine tY (N:=some 46) HT_ HW_ hHeld ?_;refine oN (N:=some 47) HT_ (fun K hK=>?_)
   refine goes_ Try.func64 (by kernel_rfl) rfl #[.agg #[((rd_T72 l0 (ji13)).f0),((rd_T72 l0 (ji13)).f1),((rd_T72 l0 (ji13)).f2),((rd_T72 l0 (ji13)).f3)],.agg #[((rd_T72 l0 aC).f0),((rd_T72 l0 aC).f1),((rd_T72 l0 aC).f2),((rd_T72 l0 aC).f3)]] (by rfl) rfl rfl (by (try simp only [List.map_toArray,List.map_cons,List.map_nil]);rfl) ?_
   with_reducible refine (Z54.calls ((rd_T72 l0 (ji13)).f0) ((rd_T72 l0 (ji13)).f1) ((rd_T72 l0 (ji13)).f2) ((rd_T72 l0 (ji13)).f3) ((rd_T72 l0 aC).f0) ((rd_T72 l0 aC).f1) ((rd_T72 l0 aC).f2) ((rd_T72 l0 aC).f3) true _ cE.out).mono ?_
   rintro e dY ⟨rfl,hb⟩;refine ⟨_,rfl,?_⟩;replace aA:=rB aA hb;replace HB:=rS HB hb
   (try clear hb)
   refine hK.out _ _ ⟨cI aA.out 0,cI aA.out 1,cI aA.out 2,cI aA.out 3,(xB HB aW :),(xB HB aV :),(xB HB aT :),(xB HB aQ :)⟩ (fun hHeld=>?_)
   clear hK K;refine norm_ (a':=?_) ?_ ?_;rotate_left
   ·show Act.put _ (some 47) _=_
    simp only [Act.put,sA,sZ,sS,i64_w,i32_w]
    rfl
   refine nY (N:=some 48) HT_ ?_;refine nY (N:=some 49) HT_ ?_;refine nY (N:=some 50) HT_ ?_;refine done_ (done_of HT_.out (by kernel_rfl)) ?_
   try go_wp2
   go_roundg k1
   case measure=>have:=bU.out;omega
   case rel=>exact ⟨(wS aC),xE,H',⟨by have:=bU.out;omega⟩,⟨bl HB.out⟩⟩

end Go.Proofs.Ytjodolkdelffaaa.PFnCards
