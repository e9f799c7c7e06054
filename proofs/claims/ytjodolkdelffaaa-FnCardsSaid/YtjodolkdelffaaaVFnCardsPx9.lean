/- A part of the proof of laws.FnCards. No condition beyond what its theorems say. -/
import Derived.Test.YtjodolkdelffaaaVFnCardsPx8
namespace Go.Proofs.Ytjodolkdelffaaa.PFnCards
open Go.RowKit Go.Proofs.YtjodolkdelffaaaW.PrintWords Go.Proofs.YtjodolkdelffaaaW.PrintLast Go.Proofs.YtjodolkdelffaaaW.PrintMore
set_option linter.unusedVariables false
set_option linter.unusedSimpArgs false

mutual
def Z7.l0:Nat→List (S72)→List (S72)→Int→Int→Option (Bool)
 | 0,_,_,_,_=>none
 | k+1,x0,x5,x6,x7=>if x7<x6 then (if 0≤x7 then (if x7<(x5.length:Int) then ((Z48.f ((rd_T72 x5 x7).f0)).bind fun aA=>(if aA=true then ((Z46.f ((rd_T72 x5 x7).f1)).bind fun aC=>(if aC=true then ((Z60.f ((rd_T72 x5 x7).f2)).bind fun aD=>(if aD=true then ((Z23.f ((rd_T72 x5 x7).f3) 1 20).bind fun aE=>(Z7.j1 k x0 x7 x5 x6 x7 (!aE) ((rd_T72 x5 x7).f0) ((rd_T72 x5 x7).f1) ((rd_T72 x5 x7).f2) ((rd_T72 x5 x7).f3))) else (Z7.j1 k x0 x7 x5 x6 x7 true ((rd_T72 x5 x7).f0) ((rd_T72 x5 x7).f1) ((rd_T72 x5 x7).f2) ((rd_T72 x5 x7).f3)))) else (Z7.j1 k x0 x7 x5 x6 x7 true ((rd_T72 x5 x7).f0) ((rd_T72 x5 x7).f1) ((rd_T72 x5 x7).f2) ((rd_T72 x5 x7).f3)))) else (Z7.j1 k x0 x7 x5 x6 x7 true ((rd_T72 x5 x7).f0) ((rd_T72 x5 x7).f1) ((rd_T72 x5 x7).f2) ((rd_T72 x5 x7).f3)))) else (none)) else (none)) else (some (decide ((x0.length:Int)≤12)))
def Z7.j1:Nat→List (S72)→Int→List (S72)→Int→Int→Bool→Int→Int→Int→Int→Option (Bool)
 | 0,_,_,_,_,_,_,_,_,_,_=>none
 | k+1,x0,x3,x5,x6,x7,aH,aA,aC,aD,aE=>if aH=true then (some false) else (if x3 > 0 then (if 0≤(wrap64 (x3 - 1)) then (if (wrap64 (x3 - 1))<(x0.length:Int) then ((Z52.f ((rd_T72 x0 (wrap64 (x3 - 1))).f0) ((rd_T72 x0 (wrap64 (x3 - 1))).f1) ((rd_T72 x0 (wrap64 (x3 - 1))).f2) ((rd_T72 x0 (wrap64 (x3 - 1))).f3) aA aC aD aE).bind fun aG=>(if aG=true then (Z7.l0 k x0 x5 x6 (wrap64 (x7+1))) else (some false))) else (none)) else (none)) else (Z7.l0 k x0 x5 x6 (wrap64 (x7+1))))
end
def Z7.f (k:Nat) (l0:List (S72)):Option (Bool):=Z7.l0 k l0 l0 (l0.length:Int) 0
theorem Z7.mono_l:∀ k,(∀ y0 y1 y2 y3,LeO (Z7.l0 k y0 y1 y2 y3) (Z7.l0 (k+1) y0 y1 y2 y3))∧(∀ y0 y1 y2 y3 y4 y5 y6 y7 y8 y9,LeO (Z7.j1 k y0 y1 y2 y3 y4 y5 y6 y7 y8 y9) (Z7.j1 (k+1) y0 y1 y2 y3 y4 y5 y6 y7 y8 y9))
 | 0=>by refine ⟨?_,?_⟩ <;> intros <;> intro r h <;> simp [Z7.l0,Z7.j1] at h
 | k+1=>by
  obtain ⟨ih0,ih1⟩:=Z7.mono_l k;refine ⟨?_,?_⟩
  ·intro y0 y1 y2 y3
   unfold Z7.l0
   repeat' (with_reducible first|apply ih1|exact lR _|refine lI ?_ ?_|refine lB ?_ fun _=>?_)
  ·intro y0 y1 y2 y3 y4 y5 y6 y7 y8 y9
   unfold Z7.j1
   repeat' (with_reducible first|apply ih0|exact lR _|refine lI ?_ ?_|refine lB ?_ fun _=>?_)
theorem Z7.mono:∀ a0 k,LeO (Z7.f k a0) (Z7.f (k+1) a0):=by
 intro a0 k;obtain ⟨ih0,ih1⟩:=Z7.mono_l k;unfold Z7.f
 repeat' (with_reducible apply ih0)
def Z7.T6:Bool × List (List Nat × List Nat):=(true,[([],[]),([0],[0]),([1],[1]),([2],[2]),([2],[2]),([4,2],[2,4]),([3,5,2],[2,3,5]),([6,2],[2,6]),([2],[2]),([7,8,2,2],[2,7,8]),([9,2],[2,9]),([2,10],[2,10])])
def Z7.B6:List Nat:=[0,1,3,7,7,23,63,127,7,511,1023,2047]
theorem Z7.tab6:rtab .any (opsOf Try.f41 6)=Z7.T6:=by kernel_rfl
theorem Z7.bits6:waitsOk Z7.T6.2 Z7.B6=true:=by kernel_rfl
set_option maxHeartbeats 60000000 in
set_option maxRecDepth 100000 in
theorem Z7.calls (k:Nat) (A0:Option Addr) (c0:Nat) (l0:List (S72)) (r:Bool) (w:World) (hr0:Kd.C k72 w A0 l0.length l0) (hc0:l0.length≤c0) (h:Z7.f k l0=some r) :
  Calls Try.prog 41 #[.slice A0 l0.length c0] w fun e w'=>e=.returned (.bool r)∧Below w.heap.size w w':=by
 have bV:=aM hr0;clear hr0 hc0;have HB:=aM (Below.refl w.heap.size w);have H:(Z7.l0 k l0 l0 (l0.length:Int) 0)=some r:=h;clear h;have H':=aM H;clear H;go_enter Try.func41,Try.ntmps41
 go_wp2
 go_loopg [7] k (fun kq v7 w'=>∃ (aA:Int),v7=.int .i64 aA∧Aside0 (Z7.l0 kq l0 l0 (l0.length:Int) aA=some r)∧Aside0 (kq≤k)∧Aside0 (Below w.heap.size w w'))
 case atStart=>exact ⟨(0),xE,H',⟨Nat.le_refl _⟩,⟨bl HB.out⟩⟩
 case round =>
  clear H';obtain ⟨aA,rfl,HA,aW,HB⟩:=hrel;cases gk with
  | zero=>exact absurd HA.out (by simp [Z7.l0])
  | succ k1 =>
   have H:=HA.out;clear HA;simp only [Z7.l0] at H
   by_cases c2:aA<(l0.length:Int)
   case neg =>
    rw [if_neg c2] at H
    have bW:=decide_eq_false c2;clear c2;obtain rfl:=Option.some.inj H;go_wp2
    go_ret
    exact ⟨xW,bl HB.out⟩
   rw [if_pos c2] at H
   have bW:=decide_eq_true c2;clear c2;obtain ⟨cO,H⟩:=gI H;obtain ⟨cP,H⟩:=gI H;have bX:=aM H;clear H;have bJ:0≤(aA:Int):=dT;have bK:aA<(l0.length:Int):=dT;obtain ⟨aD,cQ,bA,bD,bG,bH⟩:=at_T72 bV.out aA bJ bK;cases cQ
   replace bA:=xB HB bA;replace bD:=xB HB bD;replace bG:=xB HB bG;replace bH:=xB HB bH;replace bJ:=eq_true bJ;replace bK:=eq_true bK;go_upto_region 4 with (((with_reducible refine gD (N:=4) rfl ?_);refine bE (N:=4) (cs:=#[.int .i64 0,.int .i64 0,.int .i64 0,.int .i64 0]) (t:=72) ?_;intro bL hg w6 hbox hb;have aC:=aM (hbox);have cX:=gF hg HB;replace HB:=rS HB hb;clear hb hbox hg;have dG:=cA4 aC.out))
   go_cut [33] (fun cU wc=>∃ (kq:Nat) (aX:Bool),cU=.bool aX∧Aside0 (Z7.j1 kq l0 aA l0 (l0.length:Int) aA aX ((rd_T72 l0 aA).f0) ((rd_T72 l0 aA).f1) ((rd_T72 l0 aA).f2) ((rd_T72 l0 aA).f3)=some r)∧Aside0 (kq≤k1)∧Aside0 (wc.heap[bL]?=some (.cells #[((rd_T72 l0 aA).f0),((rd_T72 l0 aA).f1),((rd_T72 l0 aA).f2),((rd_T72 l0 aA).f3)] 72 (0,0)))∧Aside0 (Below w.heap.size w wc))
   case first =>
    have H:=bX.out;clear bX;obtain ⟨cR,cK,H⟩:=hB H;have A8:=aM cK;clear cK
    by_cases c9:cR=true
    case neg =>
     replace c9:=Bool.eq_false_iff.mpr c9;subst c9;replace H:=hF H;have H':=aM H;clear H;go_wp2_with (((with_reducible refine gC (f:=49) rfl ?_);refine gL (some 14) Try.func49 #[((rd_T72 l0 aA).f0)] ?_;(with_reducible refine (Z48.calls ((rd_T72 l0 aA).f0) false _ A8.out).mono ?_);rintro e w' ⟨rfl,⟨nd,rfl⟩⟩;refine ⟨_,rfl,?_⟩))
     go_meet
     case rel=>exact ⟨_,(true),xE,H',⟨by have:=aW.out;omega⟩,⟨bm aC.out⟩,⟨bl HB.out⟩⟩
    subst c9;replace H:=hP H rfl;obtain ⟨cS,bY,H⟩:=hB H;have bZ:=aM bY;clear bY
    by_cases bN:cS=true
    case neg =>
     replace bN:=Bool.eq_false_iff.mpr bN;subst bN;replace H:=hF H;have H':=aM H;clear H;go_wp2_with (first|((with_reducible refine gC (f:=49) rfl ?_);refine gL (some 14) Try.func49 #[((rd_T72 l0 aA).f0)] ?_;(with_reducible refine (Z48.calls ((rd_T72 l0 aA).f0) true _ A8.out).mono ?_);rintro e w' ⟨rfl,⟨nd,rfl⟩⟩;refine ⟨_,rfl,?_⟩)|(go_at_call 65;(with_reducible refine (Z46.calls ((rd_T72 l0 aA).f1) false _ bZ.out).mono ?_);rintro e w' ⟨rfl,⟨nd,rfl⟩⟩))
     go_meet
     case rel=>exact ⟨_,(true),xE,H',⟨by have:=aW.out;omega⟩,⟨bm aC.out⟩,⟨bl HB.out⟩⟩
    subst bN;replace H:=hP H rfl;obtain ⟨cT,cA,H⟩:=hB H;have cL:=aM cA;clear cA
    by_cases bO:cT=true
    case neg =>
     replace bO:=Bool.eq_false_iff.mpr bO;subst bO;replace H:=hF H;have H':=aM H;clear H;go_wp2_with (first|((with_reducible refine gC (f:=49) rfl ?_);refine gL (some 14) Try.func49 #[((rd_T72 l0 aA).f0)] ?_;(with_reducible refine (Z48.calls ((rd_T72 l0 aA).f0) true _ A8.out).mono ?_);rintro e w' ⟨rfl,⟨nd,rfl⟩⟩;refine ⟨_,rfl,?_⟩)|(go_at_call 65;(with_reducible refine (Z46.calls ((rd_T72 l0 aA).f1) true _ bZ.out).mono ?_);rintro e w' ⟨rfl,⟨nd,rfl⟩⟩)|(go_at_call 66;(with_reducible refine (Z60.calls ((rd_T72 l0 aA).f2) false _ cL.out).mono ?_);rintro e w' ⟨rfl,⟨nd,rfl⟩⟩))
     go_meet
     case rel=>exact ⟨_,(true),xE,H',⟨by have:=aW.out;omega⟩,⟨bm aC.out⟩,⟨bl HB.out⟩⟩
    subst bO;replace H:=hP H rfl;obtain ⟨cC,cD,H⟩:=hB H;have cV:=aM cD;clear cD;have H':=aM H;clear H;go_wp2_with (first|((with_reducible refine gC (f:=49) rfl ?_);refine gL (some 14) Try.func49 #[((rd_T72 l0 aA).f0)] ?_;(with_reducible refine (Z48.calls ((rd_T72 l0 aA).f0) true _ A8.out).mono ?_);rintro e w' ⟨rfl,⟨nd,rfl⟩⟩;refine ⟨_,rfl,?_⟩)|(go_at_call 65;(with_reducible refine (Z46.calls ((rd_T72 l0 aA).f1) true _ bZ.out).mono ?_);rintro e w' ⟨rfl,⟨nd,rfl⟩⟩)|(go_at_call 66;(with_reducible refine (Z60.calls ((rd_T72 l0 aA).f2) true _ cL.out).mono ?_);rintro e w' ⟨rfl,⟨nd,rfl⟩⟩)|(go_at_call 40;(with_reducible refine (Z23.calls ((rd_T72 l0 aA).f3) 1 20 cC _ cV.out).mono ?_);rintro e w' ⟨rfl,⟨nd,rfl⟩⟩))
    go_meet
    case rel=>exact ⟨_,(!cC),xE,H',⟨by have:=aW.out;omega⟩,⟨bm aC.out⟩,⟨bl HB.out⟩⟩
   case rest =>
    clear bX
    repeat first|clear bW|clear cO|clear cP|clear bJ|clear bK
    obtain ⟨kq,aX,rfl,HA,HJ4,aC,HB⟩:=hcut;cases kq with
    | zero=>exact absurd HA.out (by simp [Z7.j1])
    | succ cE =>
     have H:=HA.out;clear HA;simp only [Z7.j1] at H
     by_cases bT:aX=true
     case pos =>
      subst bT;replace H:=hP H rfl;obtain rfl:=Option.some.inj H;go_wp2
      go_ret
      exact ⟨xW,bl HB.out⟩
     replace bT:=Bool.eq_false_iff.mpr bT;subst bT;replace H:=hF H
     by_cases bI:aA > 0
     case neg =>
      rw [if_neg bI] at H
      have cH:=decide_eq_false bI;clear bI;have H':=aM H;clear H
      try go_wp2
      replace aC:=aM (blk_drew aC.out);replace HB:=aM (below_drew1 HB.out);refine start_ (n:=12) (S:=fun w'=>True) (ds:=[]) (dn 12 0) (by kernel_rfl) rfl rfl trivial (fun hHeld=>?_);refine with_tabW Z7.tab6 Z7.bits6 (fun HT_ HW_=>?_)
      generalize wc.drew=dI at aC HB hHeld ⊢
      refine nY (N:=some 34) HT_ ?_;refine nY (N:=some 35) HT_ ?_;refine nY (N:=some 36) HT_ ?_;refine nU (N:=some 37) HT_ ?_;refine nU (N:=some 38) HT_ ?_;refine nU (N:=some 39) HT_ ?_;refine nU (N:=some 40) HT_ ?_;refine nU (N:=some 41) HT_ ?_;refine nU (N:=some 42) HT_ ?_;refine nU (N:=some 43) HT_ ?_;refine nU (N:=some 44) HT_ ?_;refine nY (N:=some 45) HT_ ?_;refine done_ (done_of HT_.out (by kernel_rfl)) ?_
      try go_wp2
      go_roundg cE
      case measure=>have:=aW.out;have:=HJ4.out;omega
      case rel=>exact ⟨(wS aA),xE,H',⟨by have:=aW.out;have:=HJ4.out;omega⟩,⟨bl HB.out⟩⟩
     rw [if_pos bI] at H
     have cH:=decide_eq_true bI;clear bI;obtain ⟨ji21,hji21⟩:∃ j_:Int,(wrap64 (aA - 1))=j_:=⟨_,rfl⟩;replace H:(if 0≤(ji21) then (if (ji21)<(l0.length:Int) then ((Z52.f ((rd_T72 l0 (ji21)).f0) ((rd_T72 l0 (ji21)).f1) ((rd_T72 l0 (ji21)).f2) ((rd_T72 l0 (ji21)).f3) ((rd_T72 l0 aA).f0) ((rd_T72 l0 aA).f1) ((rd_T72 l0 aA).f2) ((rd_T72 l0 aA).f3)).bind fun bP=>(if bP=true then (Z7.l0 cE l0 l0 (l0.length:Int) (wS aA)) else (some false))) else (none)) else (none))=some r:=by (rw [hji21] at H;exact H)
     have hji21w:(IntKind.i64.wrap (aA - 1))=ji21:=(i64_w _).trans hji21;obtain ⟨dD,H⟩:=gI H;obtain ⟨dE,H⟩:=gI H;obtain ⟨bP,cG,H⟩:=hB H;have cN:=aM cG;clear cG
     by_cases bU:bP=true
     case neg =>
      replace bU:=Bool.eq_false_iff.mpr bU;subst bU;replace H:=hF H;obtain rfl:=Option.some.inj H
      try go_wp2
      replace aC:=aM (blk_drew aC.out);replace HB:=aM (below_drew1 HB.out);have aT:0≤((ji21):Int):=dT;have aV:(ji21)<(l0.length:Int):=dT;obtain ⟨bM,bQ,aE,aG,aH,aI⟩:=at_T72 bV.out (ji21) aT aV;have aJ:=aI;have aK:=aH;have aN:=aG;have aQ:=aE;obtain rfl:aD=bM:=(by injection bQ)
      replace aE:=xB HB aE;replace aG:=xB HB aG;replace aH:=xB HB aH;replace aI:=xB HB aI;replace aT:=eq_true aT;replace aV:=eq_true aV;refine start_ (n:=12) (S:=fun w'=>cT4 w' bL (.int .i64 ((rd_T72 l0 aA).f0)) (.int .i64 ((rd_T72 l0 aA).f1)) (.int .i64 ((rd_T72 l0 aA).f2)) (.int .i64 ((rd_T72 l0 aA).f3)) (w'.cell? (aD.add (((ji21)).toNat*4))=some ((rd_T72 l0 (ji21)).f0)∧w'.cell? ⟨(aD.add (((ji21)).toNat*4)).block,(aD.add (((ji21)).toNat*4)).off+1,none⟩=some ((rd_T72 l0 (ji21)).f1)∧w'.cell? ⟨(aD.add (((ji21)).toNat*4)).block,(aD.add (((ji21)).toNat*4)).off+2,none⟩=some ((rd_T72 l0 (ji21)).f2)∧w'.cell? ⟨(aD.add (((ji21)).toNat*4)).block,(aD.add (((ji21)).toNat*4)).off+3,none⟩=some ((rd_T72 l0 (ji21)).f3))) (ds:=[]) (dn 12 0) (by kernel_rfl) rfl rfl ⟨cI aC.out 0,cI aC.out 1,cI aC.out 2,cI aC.out 3,(xB HB aQ :),(xB HB aN :),(xB HB aK :),(xB HB aJ :)⟩ (fun hHeld=>?_);refine with_tabW Z7.tab6 Z7.bits6 (fun HT_ HW_=>?_)
      generalize wc.drew=dJ at aC HB aE aG aH aI hHeld ⊢
      refine nY (N:=some 34) HT_ ?_;refine nY (N:=some 35) HT_ ?_;refine nY (N:=some 36) HT_ ?_;refine nY (N:=some 37) HT_ ?_;refine nY (N:=some 38) HT_ ?_;refine nY (N:=some 39) HT_ ?_;refine nY (N:=some 40) HT_ ?_;refine tY (N:=some 41) HT_ HW_ hHeld ?_;refine tY (N:=some 42) HT_ HW_ hHeld ?_;refine oN (N:=some 43) HT_ (fun K hK=>?_)
      refine goes_ Try.func58 (by kernel_rfl) rfl #[.agg #[((rd_T72 l0 (ji21)).f0),((rd_T72 l0 (ji21)).f1),((rd_T72 l0 (ji21)).f2),((rd_T72 l0 (ji21)).f3)],.agg #[((rd_T72 l0 aA).f0),((rd_T72 l0 aA).f1),((rd_T72 l0 aA).f2),((rd_T72 l0 aA).f3)]] (by rfl) rfl rfl (by (try simp only [List.map_toArray,List.map_cons,List.map_nil]);rfl) ?_
      with_reducible refine (Z52.calls ((rd_T72 l0 (ji21)).f0) ((rd_T72 l0 (ji21)).f1) ((rd_T72 l0 (ji21)).f2) ((rd_T72 l0 (ji21)).f3) ((rd_T72 l0 aA).f0) ((rd_T72 l0 aA).f1) ((rd_T72 l0 aA).f2) ((rd_T72 l0 aA).f3) false _ cN.out).mono ?_
      rintro e dK ⟨rfl,hb⟩;refine ⟨_,rfl,?_⟩;replace aC:=rB aC hb;replace HB:=rS HB hb
      (try clear hb)
      refine hK.out _ _ ⟨cI aC.out 0,cI aC.out 1,cI aC.out 2,cI aC.out 3,(xB HB aQ :),(xB HB aN :),(xB HB aK :),(xB HB aJ :)⟩ (fun hHeld=>?_)
      clear hK K;refine norm_ (a':=?_) ?_ ?_;rotate_left
      ·show Act.put _ (some 43) _=_
       simp only [Act.put,sA,sZ,sS,i64_w,i32_w]
       rfl
      refine nY (N:=some 44) HT_ ?_;refine nY (N:=some 45) HT_ ?_;refine done_ (done_of HT_.out (by kernel_rfl)) ?_
      try go_wp2
      go_ret
      exact ⟨by rfl,bl HB.out⟩
     subst bU;replace H:=hP H rfl;have H':=aM H;clear H
     try go_wp2
     replace aC:=aM (blk_drew aC.out);replace HB:=aM (below_drew1 HB.out);have aT:0≤((ji21):Int):=dT;have aV:(ji21)<(l0.length:Int):=dT;obtain ⟨bM,bQ,aE,aG,aH,aI⟩:=at_T72 bV.out (ji21) aT aV;have aJ:=aI;have aK:=aH;have aN:=aG;have aQ:=aE;obtain rfl:aD=bM:=(by injection bQ)
     replace aE:=xB HB aE;replace aG:=xB HB aG;replace aH:=xB HB aH;replace aI:=xB HB aI;replace aT:=eq_true aT;replace aV:=eq_true aV;refine start_ (n:=12) (S:=fun w'=>cT4 w' bL (.int .i64 ((rd_T72 l0 aA).f0)) (.int .i64 ((rd_T72 l0 aA).f1)) (.int .i64 ((rd_T72 l0 aA).f2)) (.int .i64 ((rd_T72 l0 aA).f3)) (w'.cell? (aD.add (((ji21)).toNat*4))=some ((rd_T72 l0 (ji21)).f0)∧w'.cell? ⟨(aD.add (((ji21)).toNat*4)).block,(aD.add (((ji21)).toNat*4)).off+1,none⟩=some ((rd_T72 l0 (ji21)).f1)∧w'.cell? ⟨(aD.add (((ji21)).toNat*4)).block,(aD.add (((ji21)).toNat*4)).off+2,none⟩=some ((rd_T72 l0 (ji21)).f2)∧w'.cell? ⟨(aD.add (((ji21)).toNat*4)).block,(aD.add (((ji21)).toNat*4)).off+3,none⟩=some ((rd_T72 l0 (ji21)).f3))) (ds:=[]) (dn 12 0) (by kernel_rfl) rfl rfl ⟨cI aC.out 0,cI aC.out 1,cI aC.out 2,cI aC.out 3,(xB HB aQ :),(xB HB aN :),(xB HB aK :),(xB HB aJ :)⟩ (fun hHeld=>?_);refine with_tabW Z7.tab6 Z7.bits6 (fun HT_ HW_=>?_)
     generalize wc.drew=dL at aC HB aE aG aH aI hHeld ⊢
     refine nY (N:=some 34) HT_ ?_;refine nY (N:=some 35) HT_ ?_;refine nY (N:=some 36) HT_ ?_;refine nY (N:=some 37) HT_ ?_;refine nY (N:=some 38) HT_ ?_;refine nY (N:=some 39) HT_ ?_;refine nY (N:=some 40) HT_ ?_;refine tY (N:=some 41) HT_ HW_ hHeld ?_;refine tY (N:=some 42) HT_ HW_ hHeld ?_;refine oN (N:=some 43) HT_ (fun K hK=>?_)
     refine goes_ Try.func58 (by kernel_rfl) rfl #[.agg #[((rd_T72 l0 (ji21)).f0),((rd_T72 l0 (ji21)).f1),((rd_T72 l0 (ji21)).f2),((rd_T72 l0 (ji21)).f3)],.agg #[((rd_T72 l0 aA).f0),((rd_T72 l0 aA).f1),((rd_T72 l0 aA).f2),((rd_T72 l0 aA).f3)]] (by rfl) rfl rfl (by (try simp only [List.map_toArray,List.map_cons,List.map_nil]);rfl) ?_
     with_reducible refine (Z52.calls ((rd_T72 l0 (ji21)).f0) ((rd_T72 l0 (ji21)).f1) ((rd_T72 l0 (ji21)).f2) ((rd_T72 l0 (ji21)).f3) ((rd_T72 l0 aA).f0) ((rd_T72 l0 aA).f1) ((rd_T72 l0 aA).f2) ((rd_T72 l0 aA).f3) true _ cN.out).mono ?_
     rintro e dM ⟨rfl,hb⟩;refine ⟨_,rfl,?_⟩;replace aC:=rB aC hb;replace HB:=rS HB hb
     (try clear hb)
     refine hK.out _ _ ⟨cI aC.out 0,cI aC.out 1,cI aC.out 2,cI aC.out 3,(xB HB aQ :),(xB HB aN :),(xB HB aK :),(xB HB aJ :)⟩ (fun hHeld=>?_)
     clear hK K;refine norm_ (a':=?_) ?_ ?_;rotate_left
     ·show Act.put _ (some 43) _=_
      simp only [Act.put,sA,sZ,sS,i64_w,i32_w]
      rfl
     refine nY (N:=some 44) HT_ ?_;refine nY (N:=some 45) HT_ ?_;refine done_ (done_of HT_.out (by kernel_rfl)) ?_
     try go_wp2
     go_roundg cE
     case measure=>have:=aW.out;have:=HJ4.out;omega
     case rel=>exact ⟨(wS aA),xE,H',⟨by have:=aW.out;have:=HJ4.out;omega⟩,⟨bl HB.out⟩⟩

end Go.Proofs.Ytjodolkdelffaaa.PFnCards
