/- A part of the proof of laws.FnCards. No condition beyond what its theorems say. -/
import Derived.Test.YtjodolkdelffaaaVFnCardsPx4
namespace Go.Proofs.Ytjodolkdelffaaa.PFnCards
open Go.RowKit Go.Proofs.YtjodolkdelffaaaW.PrintWords Go.Proofs.YtjodolkdelffaaaW.PrintLast Go.Proofs.YtjodolkdelffaaaW.PrintMore
set_option linter.unusedVariables false
set_option linter.unusedSimpArgs false

def Z32.l0:Nat→List (S72)→List (S72)→Int→Option ((List (S72)))
 | 0,_,_,_=>none
 | k+1,x0,x3,x4=>if x4<(x0.length:Int) then (if 0≤x4 then (if ((rd_T72 x0 x4).f3) > 1 then (if x3.length<4398046511104 then (Z32.l0 k x0 (x3++[(⟨(rd_T72 x0 x4).f0,(rd_T72 x0 x4).f1,(rd_T72 x0 x4).f2,wrap64 (((rd_T72 x0 x4).f3) - 1)⟩:S72)]) (wrap64 (x4+1))) else (none)) else (Z32.l0 k x0 x3 (wrap64 (x4+1)))) else (none)) else (some x3)
def Z32.f (k:Nat) (l0:List (S72)):Option ((List (S72))):=Z32.l0 k l0 (([]:List (S72))) 0
theorem Z32.mono_l:∀ k,(∀ y0 y1 y2,LeO (Z32.l0 k y0 y1 y2) (Z32.l0 (k+1) y0 y1 y2))
 | 0=>fun _ _ _ r h=>by simp [Z32.l0] at h
 | k+1=>by
  have ih0:=Z32.mono_l k
  ·intro y0 y1 y2
   unfold Z32.l0
   repeat' (with_reducible first|apply ih0|exact lR _|refine lI ?_ ?_)
theorem Z32.mono:∀ a0 k,LeO (Z32.f k a0) (Z32.f (k+1) a0):=by
 intro a0 k;have ih0:=Z32.mono_l k;unfold Z32.f
 repeat' (with_reducible apply ih0)
set_option maxHeartbeats 60000000 in
set_option maxRecDepth 100000 in
theorem Z32.calls (k:Nat) (A0:Option Addr) (c0:Nat) (l0:List (S72)) (r:List (S72)) (w:World) (hr0:Kd.C k72 w A0 l0.length l0) (hc0:l0.length≤c0) (h:Z32.f k l0=some r) :
  Calls Try.prog 72 #[.slice A0 l0.length c0] w fun e w'=>∃ bN:Value,e=.returned (bN)∧Kd.R k72 72 w' w.heap.size (fun _=>True) bN r∧Below w.heap.size w w':=by
 have bO:=aM hr0;clear hr0 hc0;have HB:=aM (Below.refl w.heap.size w);have H:(Z32.l0 k l0 (([]:List (S72))) 0)=some r:=h;clear h;obtain ⟨bD,aT⟩:∃ y_:List (S72),y_=(([]:List (S72))):=⟨_,rfl⟩;replace H:(Z32.l0 k l0 bD 0)=some r:=by (rw [aT];with_reducible exact H)
 have aX:=aM aT;clear aT;have H':=aM H;clear H;go_enter Try.func72,Try.ntmps72
 go_wp2_with (((with_reducible refine gD (N:=6) rfl ?_);refine Kd.R_lit k72 _ 72 ?hg (N:=6) ?hd (xs:=([]:List (S72))) (inner:=[]) (ok:=fun _=>True) (okp:=fun _=>True) ?hr ?hp (fun _ hk=>hk) trivial (Below.refl _ _) (Nat.le_refl _) (by simp) ?_;(case hd=>rfl);(case hg=>rfl);(case hr=>(go_simp;done));(case hp=>exact (Reps.none _ _));intro bZ w2 ho3 hb hg_ hnew_;clear hg_ hnew_;(rw [← aX.out] at ho3);have bH:=aM (Kd.R_lower ho3 (below_size (bl HB.out)));replace HB:=rS HB hb;clear hb ho3))
 go_loopg [3,4] k (fun kq v3 v4 w'=>∃ (aK:List (S72)) (aA:Int),v4=.int .i64 aA∧Aside0 (Z32.l0 kq l0 aK aA=some r)∧Aside0 (kq≤k)∧Aside0 (Kd.R k72 72 w' w.heap.size (fun _=>True) v3 aK)∧Aside0 (Below w.heap.size w w'))
 case atStart=>exact ⟨(bD),(0),xE,H',⟨Nat.le_refl _⟩,⟨kr bH.out⟩,⟨bl HB.out⟩⟩
 case round =>
  clear H'
  obtain ⟨aK,aA,rfl,HA,bA,aD,HB⟩:=hrel;cases gk with
  | zero=>exact absurd HA.out (by simp [Z32.l0])
  | succ k1 =>
   have H:=HA.out;clear HA;simp only [Z32.l0] at H
   by_cases c4:aA<(l0.length:Int)
   case neg =>
    rw [if_neg c4] at H
    have bP:=decide_eq_false c4;clear c4;obtain rfl:=Option.some.inj H;go_wp2
    go_ret
    exact ⟨_,xW,by (with_reducible repeat (first|apply Kd.R_alloc|apply Kd.R_drewN|apply Kd.R_drew));exact aD.out,bl HB.out⟩
   rw [if_pos c4] at H
   have bP:=decide_eq_true c4;clear c4;obtain ⟨cA,H⟩:=gI H
   by_cases c6:((rd_T72 l0 aA).f3) > 1
   case neg =>
    rw [if_neg c6] at H
    have bQ:=decide_eq_false c6;clear c6;have H':=aM H;clear H;have aN:0≤(aA:Int):=dT;have aQ:aA<(l0.length:Int):=dT;obtain ⟨bI,aW,aG,aH,aI,aJ⟩:=at_T72 bO.out aA aN aQ;cases aW
    replace aG:=xB HB aG;replace aH:=xB HB aH;replace aI:=xB HB aI;replace aJ:=xB HB aJ;replace aN:=eq_true aN;replace aQ:=eq_true aQ;go_wp2_with (((with_reducible refine gD (N:=5) rfl ?_);refine bR aD (N:=5) (cs:=#[.int .i64 0,.int .i64 0,.int .i64 0,.int .i64 0]) (t:=72) ?_;intro aC hg cG hbox hb;have aE:=aM (hbox);have bK:=gF hg HB;replace aD:=aM (kB (Kd.R_elderB (kr aD.out) aC (Nat.le_of_eq hg.symm)) hb);replace HB:=rS HB hb;clear hb hbox hg;have bT:=cA4 aE.out))
    go_roundg k1
    case measure=>have:=bA.out;omega
    case rel=>exact ⟨(aK),(wS aA),xE,H',⟨by have:=bA.out;omega⟩,⟨kr (Kd.R_mono (rF4 (g:=aC) (Kd.R_mono aD.out (fun k_ hk=>(⟨hk,hk.2⟩:_∧k_≠aC))) (fun _ hk=>hk.2) (.int .i64 ((rd_T72 l0 aA).f0)) (.int .i64 ((rd_T72 l0 aA).f1)) (.int .i64 ((rd_T72 l0 aA).f2)) (.int .i64 ((rd_T72 l0 aA).f3))) (fun _ hk=>trivial))⟩,⟨bl HB.out⟩⟩
   rw [if_pos c6] at H
   have bQ:=decide_eq_true c6;clear c6
   by_cases c7:aK.length<4398046511104
   case neg =>
    rw [if_neg c7] at H
    exact absurd H (by simp)
   rw [if_pos c7] at H
   have LMc7:=aM c7;clear c7;obtain ⟨bG,aV⟩:∃ y_:List (S72),y_=(aK++[(⟨(rd_T72 l0 aA).f0,(rd_T72 l0 aA).f1,(rd_T72 l0 aA).f2,wrap64 (((rd_T72 l0 aA).f3) - 1)⟩:S72)]):=⟨_,rfl⟩;replace H:(Z32.l0 k1 l0 bG (wS aA))=some r:=by (rw [aV];with_reducible exact H)
   have bL:=aM aV;clear aV;have H':=aM H;clear H;have aN:0≤(aA:Int):=dT;have aQ:aA<(l0.length:Int):=dT;obtain ⟨bI,aW,aG,aH,aI,aJ⟩:=at_T72 bO.out aA aN aQ;cases aW
   replace aG:=xB HB aG;replace aH:=xB HB aH;replace aI:=xB HB aI;replace aJ:=xB HB aJ;replace aN:=eq_true aN;replace aQ:=eq_true aQ;go_wp2_with (first|((with_reducible refine gD (N:=5) rfl ?_);refine bR aD (N:=5) (cs:=#[.int .i64 0,.int .i64 0,.int .i64 0,.int .i64 0]) (t:=72) ?_;intro aC hg w8 hbox hb;have aE:=aM (hbox);have bK:=gF hg HB;replace aD:=aM (kB (Kd.R_elderB (kr aD.out) aC (Nat.le_of_eq hg.symm)) hb);replace HB:=rS HB hb;clear hb hbox hg;have cC:=cA4 aE.out)|((with_reducible refine gD (N:=25) rfl ?_);refine (show ∀ {P:Program} {ops:Array Oper} {Q:Exit→Act→World→Prop} {rest:List Oper} {a:Act} {w:World} (C:World→Prop),C w→(∀ W,C W→wpList P ops Q rest a W)→wpList P ops Q rest a w from fun _ hC h=>h _ hC) (fun W=>W.heap[aC]?=some (.cells #[((rd_T72 l0 aA).f0),((rd_T72 l0 aA).f1),((rd_T72 l0 aA).f2),.int .i64 (wrap64 (((rd_T72 l0 aA).f3) - 1))] 72 (0,0))∧Kd.R k72 72 W w.heap.size (fun k_=>k_≠aC) u3 aK∧Below w.heap.size w W) ⟨by (with_reducible repeat (first|refine blk_drewN ?_ _|refine blk_drew ?_|refine blk_alloc ?_ _));refine blk_put (cs:=#[((rd_T72 l0 aA).f0),((rd_T72 l0 aA).f1),((rd_T72 l0 aA).f2),((rd_T72 l0 aA).f3)]) ?_ 3 _ rfl;(with_reducible repeat (first|refine blk_drewN ?_ _|refine blk_drew ?_|refine blk_alloc ?_ _));refine blk_put (cs:=#[((rd_T72 l0 aA).f0),((rd_T72 l0 aA).f1),((rd_T72 l0 aA).f2),.int .i64 0]) ?_ 3 _ rfl;(with_reducible repeat (first|refine blk_drewN ?_ _|refine blk_drew ?_|refine blk_alloc ?_ _));refine blk_put (cs:=#[((rd_T72 l0 aA).f0),((rd_T72 l0 aA).f1),.int .i64 0,.int .i64 0]) ?_ 2 _ rfl;(with_reducible repeat (first|refine blk_drewN ?_ _|refine blk_drew ?_|refine blk_alloc ?_ _));refine blk_put (cs:=#[((rd_T72 l0 aA).f0),.int .i64 0,.int .i64 0,.int .i64 0]) ?_ 1 _ rfl;(with_reducible repeat (first|refine blk_drewN ?_ _|refine blk_drew ?_|refine blk_alloc ?_ _));refine blk_put (cs:=#[.int .i64 0,.int .i64 0,.int .i64 0,.int .i64 0]) ?_ 0 _ rfl;(with_reducible repeat (first|refine blk_drewN ?_ _|refine blk_drew ?_|refine blk_alloc ?_ _));exact aE.out,by (with_reducible repeat (first|apply Kd.R_alloc|apply Kd.R_drewN|apply Kd.R_drew));exact Kd.R_mono (kF (p:=⟨aC,3,none⟩) (rF4 (g:=aC) (Kd.R_mono aD.out (fun k_ hk=>(⟨hk,hk.2⟩:_∧k_≠aC))) (fun _ hk=>hk.2) (.int .i64 ((rd_T72 l0 aA).f0)) (.int .i64 ((rd_T72 l0 aA).f1)) (.int .i64 ((rd_T72 l0 aA).f2)) (.int .i64 ((rd_T72 l0 aA).f3))) (fun _ hk=>hk.2) (.int .i64 (wrap64 (((rd_T72 l0 aA).f3) - 1)))) (fun _ hk=>hk.1.2),bl HB.out⟩ ?_;intro W9 hW9;clear aE aD HB;have bU:W9.cell? ⟨aC,0,none⟩=some ((rd_T72 l0 aA).f0):=(bC hW9.1 0).trans rfl;have bV:W9.cell? ⟨aC,1,none⟩=some ((rd_T72 l0 aA).f1):=(bC hW9.1 1).trans rfl;have bW:W9.cell? ⟨aC,2,none⟩=some ((rd_T72 l0 aA).f2):=(bC hW9.1 2).trans rfl;have bX:W9.cell? ⟨aC,3,none⟩=some (.int .i64 (wrap64 (((rd_T72 l0 aA).f3) - 1))):=(bC hW9.1 3).trans rfl;have aE:=aM hW9.1;have aD:=aM hW9.2.1;have HB:=aM hW9.2.2;clear hW9)|((with_reducible refine gate_builtin (b:=.append) (xs:=#[.tmp 24,.tmp 26]) rfl ?_);at_builtin;refine Kd.R_append k72 (w0:=w) w.heap.size rfl (.tmp 24) (.tmp 26) 26 72 (.agg #[(.int .i64 0),(.int .i64 0),(.int .i64 0),(.int .i64 0)]) 32 rfl Try.underlying26 info72 rfl (by decide) (by omega) u3 aK (⟨(rd_T72 l0 aA).f0,(rd_T72 l0 aA).f1,(rd_T72 l0 aA).f2,wrap64 (((rd_T72 l0 aA).f3) - 1)⟩:S72) [.int .i64 ((rd_T72 l0 aA).f0),.int .i64 ((rd_T72 l0 aA).f1),.int .i64 ((rd_T72 l0 aA).f2),.int .i64 (wrap64 (((rd_T72 l0 aA).f3) - 1))] (fun k_=>k_≠aC) (fun _=>False) rfl (by (go_simp;done)) ?aP (fun _ hk=>hk.elim) ?aF ?aO ?aB ?aS ?aL ?_;(case aP=>exact k72_mkM _ _ _ (⟨(rd_T72 l0 aA).f0,(rd_T72 l0 aA).f1,(rd_T72 l0 aA).f2,wrap64 (((rd_T72 l0 aA).f3) - 1)⟩:S72));(case aB=>exact (bl HB.out));(case aF=>exact (fun k_ hk=>Kd.freshB (g:=aC) (o:=.cells #[((rd_T72 l0 aA).f0),((rd_T72 l0 aA).f1),((rd_T72 l0 aA).f2),.int .i64 (wrap64 (((rd_T72 l0 aA).f3) - 1))] 72 (0,0)) (bk aE.out) k_ hk));(case aO=>exact (kr aD.out));(case aS=>exact (below_size (bl HB.out)));(case aL=>have:=LMc7.out;omega);intro cD cH ho hb hg hat;rw [← bL.out] at ho;have bM:=aM (ho);replace aE:=aM (blk_grown (bk aE.out) hg (Kd.R_away aD.out (fun _ hk=>hk)));replace HB:=aM (hb);clear aD;clear ho hb hg hat))
   go_roundg k1
   case measure=>have:=bA.out;omega
   case rel=>exact ⟨(bG),(wS aA),xE,H',⟨by have:=bA.out;omega⟩,⟨kr (Kd.R_mono bM.out (fun _ hk=>trivial))⟩,⟨bl HB.out⟩⟩

def Z26.l0:Nat→List (S72)→Int→List Int→Int→Int→Option ((List (S72)) × Int × Int)
 | 0,_,_,_,_,_=>none
 | k+1,x3,x4,aA,aJ,aK=>(Z3.f aA aJ aK 9).bind fun aC=>(if x4<aC.1 then ((Z3.f aA aC.2.1 aC.2.2 4).bind fun aE=>((Z3.f aA aE.2.1 aE.2.2 3).bind fun aG=>((Z3.f aA aG.2.1 aG.2.2 4).bind fun aH=>((Z4.f k x3 (wrap64 (1+aE.1)) (wrap64 (1+aG.1)) aH.1).bind fun aI=>((Z45.f aA aH.2.1 aH.2.2 4).bind fun aD=>(if aD.1=true then ((Z32.f k aI).bind fun aN=>(Z26.l0 k aN (wrap64 (x4+1)) aA aD.2.1 aD.2.2)) else (Z26.l0 k aI (wrap64 (x4+1)) aA aD.2.1 aD.2.2))))))) else (some (x3,aC.2.1,aC.2.2)))
def Z26.f (k:Nat) (aA:List Int) (aC aD:Int):Option ((List (S72)) × Int × Int):=Z26.l0 k (([]:List (S72))) 0 aA aC aD
theorem Z26.mono_l:∀ k,(∀ y0 y1 y2 y3 y4,LeO (Z26.l0 k y0 y1 y2 y3 y4) (Z26.l0 (k+1) y0 y1 y2 y3 y4))
 | 0=>fun _ _ _ _ _ r h=>by simp [Z26.l0] at h
 | k+1=>by
  have ih0:=Z26.mono_l k
  ·intro y0 y1 y2 y3 y4
   unfold Z26.l0
   repeat' (with_reducible first|apply ih0|apply Z32.mono|apply Z4.mono|exact lR _|refine lI ?_ ?_|refine lB ?_ fun _=>?_)
theorem Z26.mono:∀ a0 a1 a2 k,LeO (Z26.f k a0 a1 a2) (Z26.f (k+1) a0 a1 a2):=by
 intro a0 a1 a2 k;have ih0:=Z26.mono_l k;unfold Z26.f
 repeat' (with_reducible apply ih0)
set_option maxHeartbeats 60000000 in
set_option maxRecDepth 100000 in
theorem Z26.calls (k g:Nat) (aD:List Int) (bJ bK:Int) (r1:List (S72)) (r2 r3:Int) (w0 w:World) (hI:IsS76 w0 w g aD bJ bK) (hB:Below w0.heap.size w0 w) (h:Z26.f k aD bJ bK=some (r1,r2,r3)) :
  Calls Try.prog 70 #[.pointer (some ⟨g,0,none⟩)] w fun e w'=>∃ cA:Value,e=.returned (cA)∧Kd.R k72 72 w' w.heap.size (fun _=>True) cA r1∧IsS76 w0 w' g aD r2 r3∧Below w0.heap.size w0 w'∧KeepBut w w' g none:=by
 have aC:=aM hI;have HK:=aM (KeepBut.refl w g none);clear hI;have HB:=aM hB;clear hB;have H:(Z26.l0 k (([]:List (S72))) 0 aD bJ bK)=some (r1,r2,r3):=h;clear h;obtain ⟨bU,aT⟩:∃ y_:List (S72),y_=(([]:List (S72))):=⟨_,rfl⟩;replace H:(Z26.l0 k bU 0 aD bJ bK)=some (r1,r2,r3):=by (rw [aT];with_reducible exact H)
 have bP:=aM aT;clear aT;have H':=aM H;clear H;go_enter Try.func70,Try.ntmps70
 go_wp2_with (((with_reducible refine gD (N:=7) rfl ?_);refine Kd.R_lit k72 _ 72 ?hg (N:=7) ?hd (xs:=([]:List (S72))) (inner:=[]) (ok:=fun _=>True) (okp:=fun _=>True) ?hr ?hp (fun _ hk=>hk) trivial (Below.refl _ _) (Nat.le_refl _) (by simp) ?_;(case hd=>rfl);(case hg=>rfl);(case hr=>(go_simp;done));(case hp=>exact (Reps.none _ _));intro dA w2 ho3 hb hg_ hnew_;clear hg_ hnew_;(rw [← bP.out] at ho3);have bY:=aM (Kd.R_lower ho3 (keep_size (km HK.out)));replace aC:=aM (IsS76.below (IsS76.mv aC.out) hb);replace HK:=rU HK hb;replace HB:=aM (bS (IsS76.bl HB.out) hb);clear hb ho3))
 go_loopg [3,4] k (fun kq v3 v4 w'=>∃ (aK:List (S72)) (aV:Int) (aE:Int) (aG:Int),v4=.int .i64 aV∧Aside0 (Z26.l0 kq aK aV aD aE aG=some (r1,r2,r3))∧Aside0 (kq≤k)∧Aside0 (Kd.R k72 72 w' w.heap.size (fun _=>True) v3 aK)∧Aside0 (IsS76 w0 w' g aD aE aG)∧Aside0 (KeepBut w w' g none)∧Aside0 (Below w0.heap.size w0 w'))
 case atStart=>exact ⟨(bU),(0),(bJ),(bK),xE,H',⟨Nat.le_refl _⟩,⟨kr bY.out⟩,⟨IsS76.mv aC.out⟩,⟨km HK.out⟩,⟨IsS76.bl HB.out⟩⟩
 case round =>
  clear H'
  obtain ⟨aK,aV,aE,aG,rfl,HA,bQ,aA,aC,HK,HB⟩:=hrel;cases gk with
  | zero=>exact absurd HA.out (by simp [Z26.l0])
  | succ k1 =>
   have H:=HA.out;clear HA;simp only [Z26.l0] at H;obtain ⟨⟨bM,aN,aQ⟩,cC,H⟩:=hB H
   try dsimp only at H
   have A4:=aM cC;clear cC
   by_cases c5:aV<bM
   case neg =>
    rw [if_neg c5] at H
    have cL:=decide_eq_false c5;clear c5;simp only [Option.some.injEq,Prod.mk.injEq] at H;obtain ⟨rfl,rfl,rfl⟩:=H;go_wp2_with (((with_reducible refine gC (f:=22) rfl ?_);refine gL (some 10) Try.func22 #[.pointer (some ⟨g,0,none⟩),.int .i64 9] ?_;(with_reducible refine (Z3.calls g aD aE aG 9 bM aN aQ w0 _ ?side1 ?side2 A4.out).mono ?_);(case side1=>exact IsS76.mv aC.out);(case side2=>exact IsS76.bl HB.out);rintro e dC ⟨rfl,hi,hb,hk⟩;refine ⟨_,rfl,?_⟩;replace aA:=aM (IsS76.rJ aD aE aG (IsS76.mv aC.out) (kr aA.out) hk);replace HK:=aM (KeepBut.trans (km HK.out) hk (.inl rfl));replace HB:=aM (hb);replace aC:=aM (hi);(repeat first|clear hb|clear hk|clear hi)))
    go_ret
    exact ⟨_,xW,by (with_reducible repeat (first|apply Kd.R_alloc|apply Kd.R_drewN|apply Kd.R_drew));exact aA.out,IsS76.mv aC.out,IsS76.bl HB.out,km HK.out⟩
   rw [if_pos c5] at H
   have cL:=decide_eq_true c5;clear c5;obtain ⟨⟨aW,aX,bA⟩,cD,H⟩:=hB H
   try dsimp only at H
   have A6:=aM cD;clear cD;obtain ⟨⟨bD,bG,bH⟩,cE,H⟩:=hB H
   try dsimp only at H
   have A7:=aM cE;clear cE;obtain ⟨⟨bI,aI,aJ⟩,cG,H⟩:=hB H
   try dsimp only at H
   have A8:=aM cG;clear cG;obtain ⟨bL,cH,H⟩:=hB H;have A9:=aM cH;clear cH;obtain ⟨⟨cN,bN,bO⟩,bV,H⟩:=hB H
   try dsimp only at H
   have cK:=aM bV;clear bV
   by_cases bT:cN=true
   case neg =>
    replace bT:=Bool.eq_false_iff.mpr bT;subst bT;replace H:=hF H;have H':=aM H;clear H;go_wp2_with (first|((with_reducible refine gC (f:=22) rfl ?_);refine gL (some 10) Try.func22 #[.pointer (some ⟨g,0,none⟩),.int .i64 9] ?_;(with_reducible refine (Z3.calls g aD aE aG 9 bM aN aQ w0 _ ?side1 ?side2 A4.out).mono ?_);(case side1=>exact IsS76.mv aC.out);(case side2=>exact IsS76.bl HB.out);rintro e dD ⟨rfl,hi,hb,hk⟩;refine ⟨_,rfl,?_⟩;replace aA:=aM (IsS76.rJ aD aE aG (IsS76.mv aC.out) (kr aA.out) hk);replace HK:=aM (KeepBut.trans (km HK.out) hk (.inl rfl));replace HB:=aM (hb);replace aC:=aM (hi);(repeat first|clear hb|clear hk|clear hi))|((with_reducible refine gC (f:=22) rfl ?_);refine gL (some 15) Try.func22 #[.pointer (some ⟨g,0,none⟩),.int .i64 4] ?_;(with_reducible refine (Z3.calls g aD aN aQ 4 aW aX bA w0 _ ?side1 ?side2 A6.out).mono ?_);(case side1=>exact IsS76.mv aC.out);(case side2=>exact IsS76.bl HB.out);rintro e dE ⟨rfl,hi,hb,hk⟩;refine ⟨_,rfl,?_⟩;replace aA:=aM (IsS76.rJ aD aN aQ (IsS76.mv aC.out) (kr aA.out) hk);replace HK:=aM (KeepBut.trans (km HK.out) hk (.inl rfl));replace HB:=aM (hb);replace aC:=aM (hi);(repeat first|clear hb|clear hk|clear hi))|((with_reducible refine gC (f:=22) rfl ?_);refine gL (some 18) Try.func22 #[.pointer (some ⟨g,0,none⟩),.int .i64 3] ?_;(with_reducible refine (Z3.calls g aD aX bA 3 bD bG bH w0 _ ?side1 ?side2 A7.out).mono ?_);(case side1=>exact IsS76.mv aC.out);(case side2=>exact IsS76.bl HB.out);rintro e dF ⟨rfl,hi,hb,hk⟩;refine ⟨_,rfl,?_⟩;replace aA:=aM (IsS76.rJ aD aX bA (IsS76.mv aC.out) (kr aA.out) hk);replace HK:=aM (KeepBut.trans (km HK.out) hk (.inl rfl));replace HB:=aM (hb);replace aC:=aM (hi);(repeat first|clear hb|clear hk|clear hi))|((with_reducible refine gC (f:=22) rfl ?_);refine gL (some 24) Try.func22 #[.pointer (some ⟨g,0,none⟩),.int .i64 4] ?_;(with_reducible refine (Z3.calls g aD bG bH 4 bI aI aJ w0 _ ?side1 ?side2 A8.out).mono ?_);(case side1=>exact IsS76.mv aC.out);(case side2=>exact IsS76.bl HB.out);rintro e dG ⟨rfl,hi,hb,hk⟩;refine ⟨_,rfl,?_⟩;replace aA:=aM (IsS76.rJ aD bG bH (IsS76.mv aC.out) (kr aA.out) hk);replace HK:=aM (KeepBut.trans (km HK.out) hk (.inl rfl));replace HB:=aM (hb);replace aC:=aM (hi);(repeat first|clear hb|clear hk|clear hi);obtain ⟨cO,cP,cQ⟩:=Kd.R_slice aA.out;subst cQ)|((with_reducible refine gC (f:=34) rfl ?_);refine gL (some 25) Try.func34 #[.slice cO aK.length cP,.int .i64 (wrap64 (1+aW)),.int .i64 (wrap64 (1+bD)),bI] ?_;(with_reducible refine (Z4.calls k1 _ _ aK (wrap64 (1+aW)) (wrap64 (1+bD)) bI bL _ ?side1 ?side2 A9.out).mono ?_);(case side1=>exact cM ((Kd.R_reads' aA.out).2.2));(case side2=>exact (Kd.R_reads' aA.out).2.1);rintro e dH ⟨cR,rfl,ho0,hb⟩;refine ⟨_,rfl,?_⟩;have aH:=aM (Kd.R_lower (Kd.R_new' ho0 (Kd.R_lt (kr aA.out))) (keep_size (km HK.out)));replace aA:=aM (Kd.R_elder' (kr aA.out) (Kd.R_base ho0) hb);replace aC:=aM (IsS76.below (IsS76.mv aC.out) hb);replace HK:=rU HK hb;replace HB:=aM (bS (IsS76.bl HB.out) hb);(repeat first|clear hb|clear ho0))|((with_reducible refine gC (f:=23) rfl ?_);refine gL (some 27) Try.func23 #[.pointer (some ⟨g,0,none⟩),.int .i64 4] ?_;(with_reducible refine (Z45.calls g aD aI aJ 4 false bN bO w0 _ ?side1 ?side2 cK.out).mono ?_);(case side1=>exact IsS76.mv aC.out);(case side2=>exact IsS76.bl HB.out);rintro e dI ⟨rfl,hi,hb,hk⟩;refine ⟨_,rfl,?_⟩;replace aA:=aM (IsS76.rJ aD aI aJ (IsS76.mv aC.out) (kr aA.out) hk);replace aH:=aM (IsS76.rJ aD aI aJ (IsS76.mv aC.out) (kr aH.out) hk);replace HK:=aM (KeepBut.trans (km HK.out) hk (.inl rfl));replace HB:=aM (hb);replace aC:=aM (hi);(repeat first|clear hb|clear hk|clear hi)))
    go_roundg k1
    case measure=>have:=bQ.out;omega
    case rel=>exact ⟨(bL),(wS aV),(bN),(bO),xE,H',⟨by have:=bQ.out;omega⟩,⟨kr (Kd.R_mono aH.out (fun _ hk=>trivial))⟩,⟨IsS76.mv aC.out⟩,⟨km HK.out⟩,⟨IsS76.bl HB.out⟩⟩
   subst bT;replace H:=hP H rfl;obtain ⟨bW,bX,H⟩:=hB H;have cY:=aM bX;clear bX;have H':=aM H;clear H;go_wp2_with (first|((with_reducible refine gC (f:=22) rfl ?_);refine gL (some 10) Try.func22 #[.pointer (some ⟨g,0,none⟩),.int .i64 9] ?_;(with_reducible refine (Z3.calls g aD aE aG 9 bM aN aQ w0 _ ?side1 ?side2 A4.out).mono ?_);(case side1=>exact IsS76.mv aC.out);(case side2=>exact IsS76.bl HB.out);rintro e dJ ⟨rfl,hi,hb,hk⟩;refine ⟨_,rfl,?_⟩;replace aA:=aM (IsS76.rJ aD aE aG (IsS76.mv aC.out) (kr aA.out) hk);replace HK:=aM (KeepBut.trans (km HK.out) hk (.inl rfl));replace HB:=aM (hb);replace aC:=aM (hi);(repeat first|clear hb|clear hk|clear hi))|((with_reducible refine gC (f:=22) rfl ?_);refine gL (some 15) Try.func22 #[.pointer (some ⟨g,0,none⟩),.int .i64 4] ?_;(with_reducible refine (Z3.calls g aD aN aQ 4 aW aX bA w0 _ ?side1 ?side2 A6.out).mono ?_);(case side1=>exact IsS76.mv aC.out);(case side2=>exact IsS76.bl HB.out);rintro e dK ⟨rfl,hi,hb,hk⟩;refine ⟨_,rfl,?_⟩;replace aA:=aM (IsS76.rJ aD aN aQ (IsS76.mv aC.out) (kr aA.out) hk);replace HK:=aM (KeepBut.trans (km HK.out) hk (.inl rfl));replace HB:=aM (hb);replace aC:=aM (hi);(repeat first|clear hb|clear hk|clear hi))|((with_reducible refine gC (f:=22) rfl ?_);refine gL (some 18) Try.func22 #[.pointer (some ⟨g,0,none⟩),.int .i64 3] ?_;(with_reducible refine (Z3.calls g aD aX bA 3 bD bG bH w0 _ ?side1 ?side2 A7.out).mono ?_);(case side1=>exact IsS76.mv aC.out);(case side2=>exact IsS76.bl HB.out);rintro e dL ⟨rfl,hi,hb,hk⟩;refine ⟨_,rfl,?_⟩;replace aA:=aM (IsS76.rJ aD aX bA (IsS76.mv aC.out) (kr aA.out) hk);replace HK:=aM (KeepBut.trans (km HK.out) hk (.inl rfl));replace HB:=aM (hb);replace aC:=aM (hi);(repeat first|clear hb|clear hk|clear hi))|((with_reducible refine gC (f:=22) rfl ?_);refine gL (some 24) Try.func22 #[.pointer (some ⟨g,0,none⟩),.int .i64 4] ?_;(with_reducible refine (Z3.calls g aD bG bH 4 bI aI aJ w0 _ ?side1 ?side2 A8.out).mono ?_);(case side1=>exact IsS76.mv aC.out);(case side2=>exact IsS76.bl HB.out);rintro e dM ⟨rfl,hi,hb,hk⟩;refine ⟨_,rfl,?_⟩;replace aA:=aM (IsS76.rJ aD bG bH (IsS76.mv aC.out) (kr aA.out) hk);replace HK:=aM (KeepBut.trans (km HK.out) hk (.inl rfl));replace HB:=aM (hb);replace aC:=aM (hi);(repeat first|clear hb|clear hk|clear hi);obtain ⟨cS,cT,cU⟩:=Kd.R_slice aA.out;subst cU)|((with_reducible refine gC (f:=34) rfl ?_);refine gL (some 25) Try.func34 #[.slice cS aK.length cT,.int .i64 (wrap64 (1+aW)),.int .i64 (wrap64 (1+bD)),bI] ?_;(with_reducible refine (Z4.calls k1 _ _ aK (wrap64 (1+aW)) (wrap64 (1+bD)) bI bL _ ?side1 ?side2 A9.out).mono ?_);(case side1=>exact cM ((Kd.R_reads' aA.out).2.2));(case side2=>exact (Kd.R_reads' aA.out).2.1);rintro e dN ⟨cR,rfl,ho0,hb⟩;refine ⟨_,rfl,?_⟩;have aH:=aM (Kd.R_lower (Kd.R_new' ho0 (Kd.R_lt (kr aA.out))) (keep_size (km HK.out)));replace aA:=aM (Kd.R_elder' (kr aA.out) (Kd.R_base ho0) hb);replace aC:=aM (IsS76.below (IsS76.mv aC.out) hb);replace HK:=rU HK hb;replace HB:=aM (bS (IsS76.bl HB.out) hb);(repeat first|clear hb|clear ho0))|((with_reducible refine gC (f:=23) rfl ?_);refine gL (some 27) Try.func23 #[.pointer (some ⟨g,0,none⟩),.int .i64 4] ?_;(with_reducible refine (Z45.calls g aD aI aJ 4 true bN bO w0 _ ?side1 ?side2 cK.out).mono ?_);(case side1=>exact IsS76.mv aC.out);(case side2=>exact IsS76.bl HB.out);rintro e dO ⟨rfl,hi,hb,hk⟩;refine ⟨_,rfl,?_⟩;replace aA:=aM (IsS76.rJ aD aI aJ (IsS76.mv aC.out) (kr aA.out) hk);replace aH:=aM (IsS76.rJ aD aI aJ (IsS76.mv aC.out) (kr aH.out) hk);replace HK:=aM (KeepBut.trans (km HK.out) hk (.inl rfl));replace HB:=aM (hb);replace aC:=aM (hi);(repeat first|clear hb|clear hk|clear hi);obtain ⟨cV,cW,cX⟩:=Kd.R_slice aH.out;subst cX)|((with_reducible refine gC (f:=72) rfl ?_);refine gL (some 29) Try.func72 #[.slice cV bL.length cW] ?_;(with_reducible refine (Z32.calls k1 _ _ bL bW _ ?side1 ?side2 cY.out).mono ?_);(case side1=>exact cM ((Kd.R_reads' aH.out).2.2));(case side2=>exact (Kd.R_reads' aH.out).2.1);rintro e dP ⟨dB,rfl,ho0,hb⟩;refine ⟨_,rfl,?_⟩;have bZ:=aM (Kd.R_lower (Kd.R_new' (Kd.R_new' ho0 (Kd.R_lt (kr aA.out))) (Kd.R_lt (kr aH.out))) (keep_size (km HK.out)));replace aA:=aM (Kd.R_elder' (kr aA.out) (Kd.R_base ho0) hb);replace aH:=aM (Kd.R_elder' (kr aH.out) (Kd.R_base ho0) hb);replace aC:=aM (IsS76.below (IsS76.mv aC.out) hb);replace HK:=rU HK hb;replace HB:=aM (bS (IsS76.bl HB.out) hb);(repeat first|clear hb|clear ho0)))
   go_roundg k1
   case measure=>have:=bQ.out;omega
   case rel=>exact ⟨(bW),(wS aV),(bN),(bO),xE,H',⟨by have:=bQ.out;omega⟩,⟨kr (Kd.R_mono bZ.out (fun _ hk=>trivial))⟩,⟨IsS76.mv aC.out⟩,⟨km HK.out⟩,⟨IsS76.bl HB.out⟩⟩

def Z14.l0:Nat→Int→Int→List Int→Int→Int→List Bool→List (S42)→Option (List Bool × (List (S42)) × (List (S72)) × Int × Int)
 | 0,_,_,_,_,_,_,_=>none
 | k+1,x4,x5,aD,aI,aJ,aA,aC=>if x5<x4 then ((Z45.f aD aI aJ 4).bind fun aG=>(if aA.length<140737488355328 then ((Z24.f k aD aG.2.1 aG.2.2).bind fun aE=>(if aC.length<4398046511104 then (Z14.l0 k x4 (wrap64 (x5+1)) aD aE.2.2.1 aE.2.2.2 (aA++[!aG.1]) (aC++[(⟨aE.1,aE.2.1⟩:S42)])) else (none))) else (none))) else ((Z26.f k aD aI aJ).bind fun aH=>(some (aA,aC,aH.1,aH.2.1,aH.2.2)))
def Z14.f (k:Nat) (aC:List Int) (aD aE:Int):Option (List Bool × (List (S42)) × (List (S72)) × Int × Int):=(Z3.f aC aD aE 4).bind fun aA=>(Z14.l0 k (wrap64 (1+aA.1)) 0 aC aA.2.1 aA.2.2 ([]:List Bool) ([]:List (S42)))
theorem Z14.mono_l:∀ k,(∀ y0 y1 y2 y3 y4 y5 y6,LeO (Z14.l0 k y0 y1 y2 y3 y4 y5 y6) (Z14.l0 (k+1) y0 y1 y2 y3 y4 y5 y6))
 | 0=>fun _ _ _ _ _ _ _ r h=>by simp [Z14.l0] at h
 | k+1=>by
  have ih0:=Z14.mono_l k
  ·intro y0 y1 y2 y3 y4 y5 y6
   unfold Z14.l0
   repeat' (with_reducible first|apply ih0|apply Z26.mono|apply Z24.mono|exact lR _|refine lI ?_ ?_|refine lB ?_ fun _=>?_)
theorem Z14.mono:∀ a0 a1 a2 k,LeO (Z14.f k a0 a1 a2) (Z14.f (k+1) a0 a1 a2):=by
 intro a0 a1 a2 k;have ih0:=Z14.mono_l k;unfold Z14.f
 repeat' (with_reducible first|apply ih0|exact lR _|refine lB ?_ fun _=>?_)
def Z14.T6:Bool × List (List Nat × List Nat):=(true,[([],[]),([0],[0]),([],[]),([2],[2]),([3],[3]),([4],[4]),([1,5,3],[1,5]),([0,1,2,3,4,5,6],[]),([7,6,6,0,1,2,3,4,5,6],[6,7])])
def Z14.B6:List Nat:=[0,1,0,4,12,28,63,127,255]
theorem Z14.tab6:rtab .any (opsOf Try.f50 6)=Z14.T6:=by kernel_rfl
theorem Z14.bits6:waitsOk Z14.T6.2 Z14.B6=true:=by kernel_rfl
def Z14.T7:Bool × List (List Nat × List Nat):=(true,[([],[]),([0],[0]),([],[]),([2],[2]),([3],[3]),([1,4,3],[1,4]),([0,1,2,3,4,5],[]),([6,5,5,0,1,2,3,4,5],[5,6])])
def Z14.B7:List Nat:=[0,1,0,4,12,31,63,127]
theorem Z14.tab7:rtab .any (opsOf Try.f50 7)=Z14.T7:=by kernel_rfl
theorem Z14.bits7:waitsOk Z14.T7.2 Z14.B7=true:=by kernel_rfl
set_option maxHeartbeats 60000000 in
set_option maxRecDepth 100000 in
theorem Z14.calls (k g:Nat) (aI:List Int) (bH bI:Int) (r1:List Bool) (r2:List (S42)) (r3:List (S72)) (r4 r5:Int) (w0 w:World) (hI:IsS76 w0 w g aI bH bI) (hB:Below w0.heap.size w0 w) (h:Z14.f k aI bH bI=some (r1,r2,r3,r4,r5)) :
  Calls Try.prog 50 #[.pointer (some ⟨g,0,none⟩)] w fun e w'=>∃ dJ dK dL:Value,e=.returned (.agg #[dJ,dK,dL])∧Kd.R Kd.bool 4 w' w.heap.size (fun _=>True) dJ r1∧Kd.S k42 42 w' w.heap.size (fun _=>True) dK r2∧Kd.R k72 72 w' w.heap.size (fun _=>True) dL r3∧IsS76 w0 w' g aI r4 r5∧Below w0.heap.size w0 w'∧KeepBut w w' g none:=by
 have aH:=aM hI;have HK:=aM (KeepBut.refl w g none);have HL:=aM hB.size;clear hI;have HW0:=aM hB.size;have HB:=aM hB;clear hB;have H:((Z3.f aI bH bI 4).bind fun cD=>(Z14.l0 k (wrap64 (1+cD.1)) 0 aI cD.2.1 cD.2.2 ([]:List Bool) ([]:List (S42))))=some (r1,r2,r3,r4,r5):=h
 clear h;obtain ⟨⟨bY,cW,cX⟩,dM,H⟩:=hB H
 try dsimp only at H
 have A2:=aM dM;clear dM;have H':=aM H;clear H;go_enter Try.func50,Try.ntmps50
 go_wp2_with (first|((with_reducible refine gD (N:=2) rfl ?_);refine bE (N:=2) (cs:=#[.slice none 0 0,.slice none 0 0,.slice none 0 0]) (t:=28) ?_;intro aQ hg w3 hbox hb;have aD:=aM (hbox);have dZ:=gE hg (keep_size (km HK.out));have eA:=gE2 HW0.out hg (keep_size (km HK.out));have cV:=nL hg (IsS76.lt (show IsS76 w0 _ g aI bH bI from IsS76.mv aH.out));have bG:=nG hg (IsS76.lt (show IsS76 w0 _ g aI bH bI from IsS76.mv aH.out));replace aH:=aM (IsS76.below (IsS76.mv aH.out) hb);replace HK:=rU HK hb;replace HB:=aM (bS (IsS76.bl HB.out) hb);clear hb hbox hg)|((with_reducible refine gD (N:=3) rfl ?_);refine bE (N:=3) (cs:=#[.slice none 0 0,.slice none 0 0,.slice none 0 0]) (t:=28) ?_;intro aT hg w4 hbox hb;have aA:=aM (hbox);have eB:=gE hg (keep_size (km HK.out));have eC:=gE2 HW0.out hg (keep_size (km HK.out));have bA:=nM hg aD;have bD:=nH hg aD;have cC:=nL hg (IsS76.lt (show IsS76 w0 _ g aI bH bI from IsS76.mv aH.out));have aW:=nG hg (IsS76.lt (show IsS76 w0 _ g aI bH bI from IsS76.mv aH.out));replace aH:=aM (IsS76.below (IsS76.mv aH.out) hb);replace aD:=rB aD hb;replace HK:=rU HK hb;replace HB:=aM (bS (IsS76.bl HB.out) hb);clear hb hbox hg;have eQ:=cA3 aA.out)|((with_reducible refine gC (f:=22) rfl ?_);refine gL (some 8) Try.func22 #[.pointer (some ⟨g,0,none⟩),.int .i64 4] ?_;(with_reducible refine (Z3.calls g aI bH bI 4 bY cW cX w0 _ ?side1 ?side2 A2.out).mono ?_);(case side1=>exact IsS76.mv aH.out);(case side2=>exact IsS76.bl HB.out);rintro e w8 ⟨rfl,hi,hb,hk⟩;refine ⟨_,rfl,?_⟩;replace aD:=aM (KeepBut.blk hk (fm aD.out) bG.out (by simp));replace aA:=aM (KeepBut.blk hk (g':=aT) (o:=.cells #[.slice none 0 0,.slice none 0 0,.slice none 0 0] 28 (0,0)) (bm aA.out) aW.out (by simp));replace HK:=aM (KeepBut.trans (km HK.out) hk (.inl rfl));replace HB:=aM (hb);replace aH:=aM (hi);(repeat first|clear hb|clear hk|clear hi)))
 go_loopg [5] k (fun kq v5 w'=>∃ (bK:Int) (aK:Int) (aN:Int) (aJ:List Bool) (aG:List (S42)) (u227000:Value) (u227001:Value),v5=.int .i64 bK∧Aside0 (Z14.l0 kq (wrap64 (1+bY)) bK aI aK aN aJ aG=some (r1,r2,r3,r4,r5))∧Aside0 (kq≤k)∧Aside0 (Kd.R Kd.bool 4 w' w.heap.size (fun _=>True) u227000 aJ)∧Aside0 (Kd.S k42 42 w' w.heap.size (fun _=>True) u227001 aG)∧Aside0 (w'.heap[aQ]?=some (.cells #[(.slice none 0 0),(.slice none 0 0),(.slice none 0 0)] 28 (0,0)))∧Aside0 (w'.heap[aT]?=some (.cells #[u227000,u227001,(.slice none 0 0)] 28 (0,0)))∧Aside0 (IsS76 w0 w' g aI aK aN)∧Aside0 (KeepBut w w' g none)∧Aside0 (Below w0.heap.size w0 w'))
 case atStart=>exact ⟨(0),(cW),(cX),(([]:List Bool)),(([]:List (S42))),(.slice none 0 0),(.slice none 0 0),xE,H',⟨Nat.le_refl _⟩,⟨by exact Kd.R_nil _ _ _ _ _⟩,⟨by exact Kd.S_nil _ _ _ _ _⟩,⟨bk aD.out⟩,⟨bk aA.out⟩,⟨IsS76.mv aH.out⟩,⟨km HK.out⟩,⟨IsS76.bl HB.out⟩⟩
 case round =>
  clear H'
  repeat first|clear c2|clear p2|clear c5|clear c6|clear p6
  obtain ⟨bK,aK,aN,aJ,aG,u227000,u227001,rfl,HA,dN,aE,aC,aD,aA,aH,HK,HB⟩:=hrel;cases gk with
  | zero=>exact absurd HA.out (by simp [Z14.l0])
  | succ k1 =>
   have H:=HA.out;clear HA;simp only [Z14.l0] at H
   by_cases c9:bK<(wrap64 (1+bY))
   case neg =>
    rw [if_neg c9] at H
    have dO:=decide_eq_false c9;clear c9;obtain ⟨⟨bJ,dP,dQ⟩,cY,H⟩:=hB H
    try dsimp only at H
    have dV:=aM cY;clear cY;simp only [Option.some.injEq,Prod.mk.injEq] at H;obtain ⟨rfl,rfl,rfl,rfl,rfl⟩:=H;go_wp2_with (((with_reducible refine gC (f:=70) rfl ?_);refine gL (some 31) Try.func70 #[.pointer (some ⟨g,0,none⟩)] ?_;(with_reducible refine (Z26.calls k1 g aI aK aN bJ dP dQ w0 _ ?side1 ?side2 dV.out).mono ?_);(case side1=>exact IsS76.mv aH.out);(case side2=>exact IsS76.bl HB.out);rintro e eX ⟨eR,rfl,ho0,hi,hb,hk⟩;refine ⟨_,rfl,?_⟩;have cR:=aM (Kd.R_lower ho0 (keep_size (km HK.out)));replace aE:=aM (IsS76.rJ aI aK aN (IsS76.mv aH.out) (kr aE.out) hk);replace aC:=aM (Kd.S_mono (Kd.S_keep (IsS76.apartS (show IsS76 w0 _ g aI aK aN from IsS76.mv aH.out) (ks aC.out) (by decide)) hk (fun _ h=>h.2)) (fun _ h=>h.1));replace aD:=rP hk aD bG;replace aA:=rP hk aA aW;replace HK:=aM (KeepBut.trans (km HK.out) hk (.inl rfl));replace HB:=aM (hb);replace aH:=aM (hi);(repeat first|clear hb|clear hk|clear hi|clear ho0);obtain ⟨bL,bM,dR⟩:=Kd.R_slice cR.out;subst dR;have eE:=bA.out;have eF:=aW.out;have eG:=cC.out;have eH:=cA3 aA.out;obtain ⟨cE,cG,dS⟩:=Kd.R_slice aE.out;subst dS;have eI:=bG.out;have eJ:=cV.out;have eK:=cA3 aD.out;obtain ⟨cH,cK,dU⟩:=Kd.S_slice aC.out;subst dU))
    refine bodyPost_ret (results_cell_row rfl _ _ aQ 28 #[.slice cE aJ.length cG,.slice cH aG.length cK,.slice bL bJ.length bM] (0,0) _ rfl (bm aD.out) Try.underlying28 rfl (by kernel_rfl)) rfl ?_
    exact ⟨_,_,_,xW,by (with_reducible repeat (first|apply Kd.R_alloc|apply Kd.R_drewN|apply Kd.R_drew));exact Kd.R_mono (rF3 (g:=aQ) (kF (p:=⟨aT,2,none⟩) (Kd.R_types (Kd.R_types aE.out aA.out (by decide)) aD.out (by decide)) (fun _ hk=>hk.1.2) (.slice bL bJ.length bM)) (fun _ hk=>hk.2) (.slice cE aJ.length cG) (.slice cH aG.length cK) (.slice bL bJ.length bM)) (fun _ hk=>trivial),ks (Kd.S_mono (sF3 (g:=aQ) (Kd.S_far (p:=⟨aT,2,none⟩) (Kd.S_types (Kd.S_types aC.out aA.out (by decide)) aD.out (by decide)) (fun _ hk=>hk.1.2) (.slice bL bJ.length bM)) (fun _ hk=>hk.2) (.slice cE aJ.length cG) (.slice cH aG.length cK) (.slice bL bJ.length bM)) (fun _ hk=>trivial)),by (with_reducible repeat (first|apply Kd.R_alloc|apply Kd.R_drewN|apply Kd.R_drew));exact Kd.R_mono (rF3 (g:=aQ) (kF (p:=⟨aT,2,none⟩) (Kd.R_types (Kd.R_types cR.out aA.out (by decide)) aD.out (by decide)) (fun _ hk=>hk.1.2) (.slice bL bJ.length bM)) (fun _ hk=>hk.2) (.slice cE aJ.length cG) (.slice cH aG.length cK) (.slice bL bJ.length bM)) (fun _ hk=>trivial),IsS76.mv aH.out,IsS76.bl HB.out,km HK.out⟩
   rw [if_pos c9] at H
   have dO:=decide_eq_true c9;clear c9;obtain ⟨⟨cL,bT,bU⟩,dA,H⟩:=hB H
   try dsimp only at H
   have dW:=aM dA;clear dA
   by_cases cS:aJ.length<140737488355328
   case neg =>
    rw [if_neg cS] at H
    exact absurd H (by simp)
   rw [if_pos cS] at H
   have LMc11:=aM cS;clear cS;obtain ⟨aX,bP⟩:∃ y_:List Bool,y_=(aJ++[!cL]):=⟨_,rfl⟩;replace H:((Z24.f k1 aI bT bU).bind fun bW=>(if aG.length<4398046511104 then (Z14.l0 k1 (wrap64 (1+bY)) (wS bK) aI bW.2.2.1 bW.2.2.2 aX (aG++[(⟨bW.1,bW.2.1⟩:S42)])) else (none)))=some (r1,r2,r3,r4,r5):=by (rw [bP];with_reducible exact H)
   have dH:=aM bP;clear bP;obtain ⟨⟨bZ,bV,cN,cO⟩,dB,H⟩:=hB H
   try dsimp only at H
   have dX:=aM dB;clear dB
   by_cases cT:aG.length<4398046511104
   case neg =>
    rw [if_neg cT] at H
    exact absurd H (by simp)
   rw [if_pos cT] at H
   have LMc13:=aM cT;clear cT;obtain ⟨cA,bQ⟩:∃ y_:List (S42),y_=(aG++[(⟨bZ,bV⟩:S42)]):=⟨_,rfl⟩;replace H:(Z14.l0 k1 (wrap64 (1+bY)) (wS bK) aI cN cO aX cA)=some (r1,r2,r3,r4,r5):=by (rw [bQ];with_reducible exact H)
   have dI:=aM bQ;clear bQ;have H':=aM H;clear H
   try go_wp2
   replace aE:=aM (Kd.R_drew aE.out);replace aC:=aM (Kd.S_drew aC.out);replace aD:=aM (blk_drew aD.out);replace aA:=aM (blk_drew aA.out);replace aH:=aM (IsS76.drew aH.out);replace HK:=aM (keep_drew HK.out);replace HB:=aM (below_drew1 HB.out);refine start_ (n:=9) (S:=fun w'=>cS3 w' aT (u227000) (u227001) (.slice none 0 0)) (ds:=[8]) (dn 9 0) (by kernel_rfl) rfl rfl ⟨cI aA.out 0,cI aA.out 1,cI aA.out 2⟩ (fun hHeld=>?_);refine with_tabW Z14.tab6 Z14.bits6 (fun HT_ HW_=>?_)
   generalize wr.drew=eY at aE aC aD aA aH HK HB hHeld ⊢
   refine nY (N:=some 15) HT_ ?_;refine pZ 2 17 (bv 9 5) HT_ ?_;refine aZ 1 16 (bv 9 7) HT_ HW_ hHeld ?_;refine one_ (i:=3) (N:=some 18) (bv 9 15) rfl rfl (one_of HT_.out (by kernel_rfl)) (by decide) (fun K hK=>?_)
   refine goes_ Try.func23 (by kernel_rfl) rfl #[.pointer (some ⟨g,0,none⟩),.int .i64 4] (by rfl) rfl rfl xR ?_
   with_reducible refine (Z45.calls g aI aK aN 4 cL bT bU w0 _ ?side1 ?side2 dW.out).mono ?_
   (case side1=>exact IsS76.mv aH.out)
   (case side2=>exact IsS76.bl HB.out)
   rintro e eZ ⟨rfl,hi,hb,hk⟩;refine ⟨_,rfl,?_⟩;replace aE:=aM (IsS76.rJ aI aK aN (IsS76.mv aH.out) (kr aE.out) hk)
   replace aC:=aM (Kd.S_mono (Kd.S_keep (IsS76.apartS (show IsS76 w0 _ g aI aK aN from IsS76.mv aH.out) (ks aC.out) (by decide)) hk (fun _ h=>h.2)) (fun _ h=>h.1))
   replace aD:=rP hk aD bG;replace aA:=rP hk aA aW;replace HK:=aM (KeepBut.trans (km HK.out) hk (.inl rfl));replace HB:=aM (hb);replace aH:=aM (hi)
   (try clear hb)
   (try clear hk)
   (try clear hi)
   refine hK.out _ _ ⟨cI aA.out 0,cI aA.out 1,cI aA.out 2⟩ (fun hHeld=>?_)
   clear hK K;refine norm_ (a':=?_) ?_ ?_;rotate_left
   ·show Act.put _ (some 18) _=_
    simp only [Act.put,sA,sZ,sS,i64_w,i32_w]
    rfl
   refine pZ 4 19 (bv 9 31) HT_ ?_;refine one_ (i:=5) (N:=some 20) (bv 9 63) rfl rfl (one_of HT_.out (by kernel_rfl)) (by decide) (fun K hK=>?_)
   refine value_ (w1:=?_) (v:=?_) (by rfl) rfl ?_ ?_
   rotate_left 2
   ·go_simp
    constructor
    ·rfl
    ·rfl
   refine hK.out _ _ ⟨(bC (blk_alloc aA.out _) 0).trans rfl,(bC (blk_alloc aA.out _) 1).trans rfl,(bC (blk_alloc aA.out _) 2).trans rfl⟩ (fun hHeld=>?_)
   clear hK K;refine norm_ (a':=?_) ?_ ?_;rotate_left
   ·show Act.put _ (some 20) _=_
    simp only [Act.put,sA,sZ,sS,i64_w,i32_w]
    rfl
   refine one_ (i:=6) (N:=some 21) (bv 9 127) rfl rfl (one_of HT_.out (by kernel_rfl)) (by decide) (fun K hK=>?_)
   refine Kd.R_append_step Kd.bool w.heap.size (by rfl) (.tmp 16) (.tmp 20) 24 4 (.bool false) 1 rfl Try.underlying24 info4 rfl (by decide) (by omega) u227000 aJ (!cL) [.bool (!cL)] (fun _=>True) (fun _=>False) rfl rfl ?aP (fun _ hk=>hk.elim) ?aF ?aO (Below.refl _ _) ?aS ?aL ?_
   (case aP=>exact rfl)
   (case aF=>exact (fun _ _=>trivial))
   (case aO=>exact (kr aE.out))
   (case aS=>exact (keep_size (km HK.out)))
   (case aL=>have:=LMc11.out;omega)
   intro eS fA ho hb hg hat;rw [← dH.out] at ho
   have aV:=aM (ho);replace aC:=aM (Kd.S_over' (ks aC.out) (Kd.R_typed (kr aE.out)) (by decide) hg)
   replace aD:=aM (blk_grown (bk aD.out) hg (Kd.R_ne aE.out aD.out (by decide)))
   replace aA:=aM (blk_grown (bk aA.out) hg (Kd.R_ne aE.out aA.out (by decide)))
   replace aH:=aM (IsS76.grown (IsS76.mv aH.out) hg (IsS76.own_ne aH.out aE.out (by decide)))
   replace HB:=aM (below_weaken (IsS76.bl HB.out) HL.out hb);replace HK:=aM (KeepBut.trans (km HK.out) (KeepBut.of_grown hg g) (Kd.R_base2 aE.out));clear aE;clear ho hb hg hat;obtain ⟨bN,bO,dC⟩:=Kd.R_slice aV.out
   (subst dC)
   refine hK.out _ _ ⟨cI aA.out 0,cI aA.out 1,cI aA.out 2⟩ (fun hHeld=>?_)
   clear hK K;refine norm_ (a':=?_) ?_ ?_;rotate_left
   ·show Act.put _ (some 21) _=_
    simp only [Act.put,sA,sZ,sS,i64_w,i32_w]
    rfl
   refine pZ 7 22 (bv 9 255) HT_ ?_;refine last_ (i:=8) (N:=none) (bv 9 511) rfl rfl (one_of HT_.out (by kernel_rfl)) (by decide) (fun K hK=>?_)
   have hfs18:=bF aA.out 0;refine skip_ (w1:=?_) (by rfl) rfl ?_ ?_
   rotate_left
   ·go_simp
    rfl
   refine hK.out _ _ ?_;clear hK K;refine done_ (done_of HT_.out (by kernel_rfl)) ?_
   try go_wp2
   refine nW (fun W=>Aside0 (Kd.S k42 42 W w.heap.size (fun _=>True) u227001 aG)∧Aside0 (Kd.R Kd.bool 4 W w.heap.size (fun _=>True) (.slice bN aX.length bO) aX)∧Aside0 (W.heap[aQ]?=some (.cells #[.slice none 0 0,.slice none 0 0,.slice none 0 0] 28 (0,0)))∧Aside0 (W.heap[aT]?=some (.cells #[.slice bN aX.length bO,u227001,.slice none 0 0] 28 (0,0)))∧Aside0 (IsS76 w0 W g aI bT bU)∧Aside0 (KeepBut w W g none)∧Aside0 (Below w0.heap.size w0 W)) ⟨⟨ks (Kd.S_mono (sU1 0 aC.out aA.out (.slice bN aX.length bO)) (fun _ hk=>trivial))⟩,⟨kr (Kd.R_mono (rU1 0 aV.out aA.out (.slice bN aX.length bO)) (fun _ hk=>trivial))⟩,⟨fm aD.out⟩,⟨by (with_reducible repeat (first|refine blk_drewN ?_ _|refine blk_drew ?_|refine blk_alloc ?_ _));refine blk_put (cs:=#[u227000,u227001,.slice none 0 0]) ?_ 0 _ rfl;(with_reducible repeat (first|refine blk_drewN ?_ _|refine blk_drew ?_|refine blk_alloc ?_ _));exact aA.out⟩,⟨IsS76.mv aH.out⟩,⟨km HK.out⟩,⟨IsS76.bl HB.out⟩⟩ ?_
   intro dY nn_;replace aC:=nn_.1;replace aV:=nn_.2.1;replace aD:=nn_.2.2.1;replace aA:=nn_.2.2.2.1;replace aH:=nn_.2.2.2.2.1;replace HK:=nn_.2.2.2.2.2.1;replace HB:=nn_.2.2.2.2.2.2;clear nn_;replace aC:=aM (Kd.S_drew aC.out);replace aV:=aM (Kd.R_drew aV.out);replace aD:=aM (blk_drew aD.out);replace aA:=aM (blk_drew aA.out);replace aH:=aM (IsS76.drew aH.out);replace HK:=aM (keep_drew HK.out);replace HB:=aM (below_drew1 HB.out);refine start_ (n:=8) (S:=fun w'=>cS3 w' aT (.slice bN aX.length bO) (u227001) (.slice none 0 0)) (ds:=[7]) (dn 8 0) (by kernel_rfl) rfl rfl ⟨cI aA.out 0,cI aA.out 1,cI aA.out 2⟩ (fun hHeld=>?_);refine with_tabW Z14.tab7 Z14.bits7 (fun HT_ HW_=>?_)
   generalize dY.drew=fB at aC aV aD aA aH HK HB hHeld ⊢
   refine nY (N:=some 23) HT_ ?_;refine pZ 2 25 (bv 8 5) HT_ ?_;refine aZ 1 24 (bv 8 7) HT_ HW_ hHeld ?_;refine one_ (i:=3) (N:=some 26) (bv 8 15) rfl rfl (one_of HT_.out (by kernel_rfl)) (by decide) (fun K hK=>?_)
   refine goes_ Try.func69 (by kernel_rfl) rfl #[.pointer (some ⟨g,0,none⟩)] (by rfl) rfl rfl xR ?_
   with_reducible refine (Z24.calls k1 g aI bT bU bZ bV cN cO w0 _ ?side1 ?side2 dX.out).mono ?_
   (case side1=>exact IsS76.mv aH.out)
   (case side2=>exact IsS76.bl HB.out)
   rintro e fC ⟨eU,rfl,ho0,hi,hb,hk⟩;refine ⟨_,rfl,?_⟩;have bX:=aM (Kd.R_lower ho0 (keep_size (km HK.out)));replace aC:=aM (Kd.S_mono (Kd.S_told (Kd.S_oldK (IsS76.apartS (show IsS76 w0 _ g aI bT bU from IsS76.mv aH.out) (ks aC.out) (by decide)) hk) (Kd.R_base ho0)) (fun _ h_=>h_.1))
   replace aD:=rP hk aD bG;replace aA:=rP hk aA aW;replace aV:=aM (IsS76.rJ aI bT bU (IsS76.mv aH.out) (kr aV.out) hk)
   replace HK:=aM (KeepBut.trans (km HK.out) hk (.inl rfl));replace HB:=aM (hb);replace aH:=aM (hi)
   (try clear hb)
   (try clear hk)
   (try clear hi)
   (try clear ho0)
   obtain ⟨dD,dE,dF⟩:=Kd.R_slice bX.out
   (subst dF)
   refine hK.out _ _ ⟨cI aA.out 0,cI aA.out 1,cI aA.out 2⟩ (fun hHeld=>?_)
   clear hK K;refine norm_ (a':=?_) ?_ ?_;rotate_left
   ·show Act.put _ (some 26) _=_
    simp only [Act.put,sA,sZ,sS,i64_w,i32_w]
    rfl
   refine one_ (i:=4) (N:=some 27) (bv 8 31) rfl rfl (one_of HT_.out (by kernel_rfl)) (by decide) (fun K hK=>?_)
   refine value_ (w1:=?_) (v:=?_) (by rfl) rfl ?_ ?_
   rotate_left 2
   ·go_simp
    constructor
    ·rfl
    ·rfl
   refine hK.out _ _ ⟨(bC (blk_alloc aA.out _) 0).trans rfl,(bC (blk_alloc aA.out _) 1).trans rfl,(bC (blk_alloc aA.out _) 2).trans rfl⟩ (fun hHeld=>?_)
   clear hK K;refine norm_ (a':=?_) ?_ ?_;rotate_left
   ·show Act.put _ (some 27) _=_
    simp only [Act.put,sA,sZ,sS,i64_w,i32_w]
    rfl
   refine one_ (i:=5) (N:=some 28) (bv 8 63) rfl rfl (one_of HT_.out (by kernel_rfl)) (by decide) (fun K hK=>?_)
   refine Kd.S_append_step k42 w.heap.size (by rfl) (.tmp 24) (.tmp 27) 25 42 (.agg #[(.int .i64 0),(.slice none 0 0)]) 32 rfl Try.underlying25 info42 rfl (by decide) (by omega) u227001 aG (⟨bZ,bV⟩:S42) [.int .i64 bZ,.slice dD bV.length dE] (fun _=>True) (fun k_=>some k_=(.slice dD bV.length dE:Value).ownBlock) rfl rfl ?aP (fun k_ hk_=>((Kd.R_mono (ok':=fun k_=>((fun _=>True)) k_∧some k_≠(u227001:Value).ownBlock) (Kd.R_apart' (bX.out) (Kd.S_typed aC.out) (by decide)) (fun k_ hk=>⟨trivial,hk.2⟩))).1 k_ hk_.symm) ?aF ?aO (Below.refl _ _) ?aS ?aL ?_
   (case aP=>exact k42_mkM _ _ _ (⟨bZ,bV⟩:S42) (Kd.R_mono (Kd.R_tight rfl (Kd.R_mono (ok':=fun k_=>((fun _=>True)) k_∧some k_≠(u227001:Value).ownBlock) (Kd.R_apart' (bX.out) (Kd.S_typed aC.out) (by decide)) (fun k_ hk=>⟨trivial,hk.2⟩))) (fun _ h_=>h_)))
   (case aF=>exact (fun _ _=>trivial))
   (case aO=>exact (ks (Kd.S_mono aC.out (fun k_ hk=>⟨trivial,fun e_=>hk.2 e_⟩))))
   (case aS=>exact (keep_size (km HK.out)))
   (case aL=>have:=LMc13.out;omega)
   intro eV fD ho hb hg hat;rw [← dI.out] at ho
   have cU:=aM (ho);replace aD:=aM (blk_grown (bk aD.out) hg (Kd.S_ne aC.out aD.out (by decide)))
   replace aA:=aM (blk_grown (bk aA.out) hg (Kd.S_ne aC.out aA.out (by decide)))
   replace aH:=aM (IsS76.grown (IsS76.mv aH.out) hg (IsS76.own_neS aH.out aC.out (by decide)))
   replace aV:=aM (Kd.R_over' (kr aV.out) (Kd.S_typed (ks aC.out)) (by decide) hg)
   replace HB:=aM (below_weaken (IsS76.bl HB.out) HL.out hb);replace HK:=aM (KeepBut.trans (km HK.out) (KeepBut.of_grown hg g) (Kd.S_base2 aC.out));clear aC bX;clear ho hb hg hat;obtain ⟨cP,cQ,dG⟩:=Kd.S_slice cU.out
   (subst dG)
   refine hK.out _ _ ⟨cI aA.out 0,cI aA.out 1,cI aA.out 2⟩ (fun hHeld=>?_)
   clear hK K;refine norm_ (a':=?_) ?_ ?_;rotate_left
   ·show Act.put _ (some 28) _=_
    simp only [Act.put,sA,sZ,sS,i64_w,i32_w]
    rfl
   refine pZ 6 29 (bv 8 127) HT_ ?_;refine last_ (i:=7) (N:=none) (bv 8 255) rfl rfl (one_of HT_.out (by kernel_rfl)) (by decide) (fun K hK=>?_)
   have hfs25:=bF aA.out 1;refine skip_ (w1:=?_) (by rfl) rfl ?_ ?_
   rotate_left
   ·go_simp
    rfl
   refine hK.out _ _ ?_;clear hK K;refine done_ (done_of HT_.out (by kernel_rfl)) ?_
   try go_wp2
   go_roundg k1
   case measure=>have:=dN.out;omega
   case rel=>exact ⟨(wS bK),(cN),(cO),(aX),(cA),(.slice bN aX.length bO),(.slice cP cA.length cQ),xE,H',⟨by have:=dN.out;omega⟩,⟨kr (Kd.R_mono (rU1 1 aV.out aA.out (.slice cP cA.length cQ)) (fun _ hk=>trivial))⟩,⟨ks (Kd.S_mono (sU1 1 cU.out aA.out (.slice cP cA.length cQ)) (fun _ hk=>trivial))⟩,⟨fm aD.out⟩,⟨by (with_reducible repeat (first|refine blk_drewN ?_ _|refine blk_drew ?_|refine blk_alloc ?_ _));refine blk_put (cs:=#[.slice bN aX.length bO,u227001,.slice none 0 0]) ?_ 1 _ rfl;(with_reducible repeat (first|refine blk_drewN ?_ _|refine blk_drew ?_|refine blk_alloc ?_ _));exact aA.out⟩,⟨IsS76.mv aH.out⟩,⟨km HK.out⟩,⟨IsS76.bl HB.out⟩⟩

end Go.Proofs.Ytjodolkdelffaaa.PFnCards
