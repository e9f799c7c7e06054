/- A part of the proof of laws.FnExactPass. No condition beyond what its theorems say. -/
import Derived.Test.YtfljolhhgheheaaVFnExactPassPx0
namespace Go.Proofs.Ytfljolhhgheheaa.PFnExactPass
open Go.RowKit Go.Proofs.YtfljolhhgheheaaW.PrintWords Go.Proofs.YtfljolhhgheheaaW.PrintLast Go.Proofs.YtfljolhhgheheaaW.PrintMore
set_option linter.unusedVariables false
set_option linter.unusedSimpArgs false

def Y32.l0:Nat→List Bool→List Bool→Int→Option (List Bool)
 | 0,_,_,_=>none
 | k+1,x0,x3,x4=>if x4<(x0.length:Int) then (if 0≤x4 then (if x4<(x3.length:Int) then (Y32.l0 k x0 (x3.set (x4:Int).toNat (rdOf false x0 x4)) (wrap64 (x4+1))) else (none)) else (none)) else (some x3)
def Y32.f (k:Nat) (l0:List Bool):Option (List Bool):=if 0≤(l0.length:Int) then (if ((l0.length:Int):Int).toNat≤281474976710656 then (Y32.l0 k l0 (List.replicate ((l0.length:Int):Int).toNat false) 0) else (none)) else (none)
theorem Y32.mono_l:∀ k,(∀ y0 y1 y2,LeO (Y32.l0 k y0 y1 y2) (Y32.l0 (k+1) y0 y1 y2))
 | 0=>fun _ _ _ r h=>by simp [Y32.l0] at h
 | k+1=>by
  have ih0:=Y32.mono_l k
  ·intro y0 y1 y2
   unfold Y32.l0
   repeat' first|(with_reducible first|apply ih0|exact lR _|exact lN _|refine lI ?_ ?_|refine lB ?_ fun _=>?_)|exact lN _|refine lI ?_ ?_|refine lB ?_ fun _=>?_
theorem Y32.mono:∀ a0 k,LeO (Y32.f k a0) (Y32.f (k+1) a0):=by
 intro a0 k;have ih0:=Y32.mono_l k;unfold Y32.f
 repeat' first|(with_reducible first|apply ih0|exact lR _|exact lN _|refine lI ?_ ?_|refine lB ?_ fun _=>?_)|exact lN _|refine lI ?_ ?_|refine lB ?_ fun _=>?_
set_option maxHeartbeats 60000000 in
set_option maxRecDepth 100000 in
theorem Y32.calls (k:Nat) (A0:Option Addr) (c0:Nat) (l0:List Bool) (r:List Bool) (w:World) (hr0:Kd.C Kd.bool w A0 l0.length l0) (hc0:l0.length≤c0) (h:Y32.f k l0=some r) :
  Calls Try.prog 29 #[.slice A0 l0.length c0] w fun e w'=>∃ bD:Value,e=.returned (bD)∧Kd.R Kd.bool 4 w' w.heap.size (fun _=>True) bD r∧Below w.heap.size w w':=by
 have bT:=aM hr0;have cD:=aM hc0;clear hr0 hc0;have HB:=aM (Below.refl w.heap.size w);have H:(if 0≤(l0.length:Int) then (if ((l0.length:Int):Int).toNat≤281474976710656 then (Y32.l0 k l0 (List.replicate ((l0.length:Int):Int).toNat false) 0) else (none)) else (none))=some r:=h;clear h
 by_cases c2:0≤(l0.length:Int)
 case neg =>
  rw [if_neg c2] at H
  exact absurd H (by simp)
 rw [if_pos c2] at H
 have bK:=eq_true c2;have bL:decide (0≤(l0.length:Int))=true:=decide_eq_true c2;clear c2
 by_cases c3:((l0.length:Int):Int).toNat≤281474976710656
 case neg =>
  rw [if_neg c3] at H
  exact absurd H (by simp)
 rw [if_pos c3] at H
 have bM:=eq_true c3;have bN:decide (((l0.length:Int):Int).toNat≤281474976710656)=true:=decide_eq_true c3;clear c3;obtain ⟨aT,aD⟩:∃ y_:List Bool,y_=(List.replicate ((l0.length:Int):Int).toNat false):=⟨_,rfl⟩;replace H:(Y32.l0 k l0 aT 0)=some r:=by first|(rw [aD];with_reducible exact H)|(have H2_:=(Option.bind_some _ _).symm.trans H;rw [aD];with_reducible exact H2_)|(have H2_:=(Option.bind_some _ _).symm.trans H;with_reducible exact H2_)|with_reducible exact H|(rw [aD];exact H)|exact H
 have aQ:=aM aD;clear aD;have H':=aM H;clear H;go_enter Try.func29,Try.ntmps29
 go_wp2_with (first|((with_reducible refine gD (N:=7) rfl ?_);refine Kd.R_make Kd.bool _ 4 rfl (N:=7) rfl 22 _ _ rfl (l0.length:Int) rfl rfl Try.underlying22 (.bool false) 1 info4 rfl (by decide) (by omega) false (ok:=fun _=>True) (okp:=fun _=>True) rfl (fun _ hk=>hk) trivial (dT) (Nat.le_trans (Nat.mul_le_mul_right _ (dT:(l0.length:Int).toNat≤281474976710656)) (by omega)) (Below.refl _ _) (Nat.le_refl _) ?_;intro bO w4 ho5 hb hg_ hnew_;clear hg_ hnew_;(first|rw [← aQ.out] at ho5|(simp only [Int.reduceToNat] at ho5;rw [← aQ.out] at ho5));have aX:=aM (Kd.R_lower ho5 (below_size (bl HB.out)));replace HB:=rS HB hb;clear hb ho5))
 go_loopg [4] k (fun kq v4 w'=>∃ (aG:List Bool) (aA:Int),v4=.int .i64 aA∧Aside0 (Y32.l0 kq l0 aG aA=some r)∧Aside0 (kq≤k)∧Aside0 (Kd.R Kd.bool 4 w' w.heap.size (fun _=>True) bO aG)∧Aside0 (Below w.heap.size w w'))
 case atStart=>exact ⟨(aT),(0),xE,H',⟨Nat.le_refl _⟩,⟨kr aX.out⟩,⟨bl HB.out⟩⟩
 case round =>
  clear H'
  repeat first|clear c2|clear bK|clear bL|clear p2|clear c3|clear bM|clear bN
  obtain ⟨aG,aA,rfl,HA,bG,aC,HB⟩:=hrel;cases gk with
  | zero=>exact absurd HA.out (by simp [Y32.l0])
  | succ k1 =>
   have H:=HA.out;clear HA;simp only [Y32.l0] at H
   by_cases c6:aA<(l0.length:Int)
   case neg =>
    rw [if_neg c6] at H
    have bP:=decide_eq_false c6;clear c6;obtain rfl:=Option.some.inj H;go_wp2
    go_ret
    exact ⟨_,xW,by (with_reducible repeat (first|apply Kd.R_alloc|apply Kd.R_drewN|apply Kd.R_drew));exact aC.out,bl HB.out⟩
   rw [if_pos c6] at H
   have bP:=decide_eq_true c6;clear c6;obtain ⟨cA,H⟩:=gI H;obtain ⟨cC,H⟩:=gI H;obtain ⟨aI,aE⟩:∃ y_:List Bool,y_=(aG.set (aA:Int).toNat (rdOf false l0 aA)):=⟨_,rfl⟩;replace H:(Y32.l0 k1 l0 aI (wS aA))=some r:=by first|(rw [aE];with_reducible exact H)|(have H2_:=(Option.bind_some _ _).symm.trans H;rw [aE];with_reducible exact H2_)|(have H2_:=(Option.bind_some _ _).symm.trans H;with_reducible exact H2_)|with_reducible exact H|(rw [aE];exact H)|exact H
   have bA:=aM aE;clear aE;have H':=aM H;clear H;have aJ:0≤(aA:Int):=dT;have aK:aA<(l0.length:Int):=dT;obtain ⟨bX,bQ,aH⟩:=Kd.at_bool bT.out aA aJ aK;cases bQ
   replace aH:=xB HB aH;replace aJ:=eq_true aJ;replace aK:=eq_true aK;have p9:0≤(aA:Int):=dT;have q9:(aA:Int)<((aG.length:Int):Int):=dT;obtain ⟨aV,bU,bH,bI,bV,cE,bJ⟩:=Kd.R_form aC.out (by omega)
   (first|cases bH|(injection bH with ea_ en_ ec_;(first|subst ea_|(injection ea_ with ea_;subst ea_));subst ec_;clear en_))
   have bW:=aM bI;have cG:=aM bJ;clear bI bV bJ;obtain ⟨bY,bZ⟩:=Kd.R_celln false aC.out (aA:Int) p9 q9;replace p9:=eq_true p9;replace q9:=eq_true q9;have aN:=Kd.R_putg aC.out (aA:Int) (rdOf false l0 aA);go_wp2_with (first|((with_reducible refine gate_store (t:=4) (p:=20) rfl ?_);refine store_event (t:=4) (p:=20) (v:=?vo_w11) (w1:=(wr.setCell ⟨aV,(aA:Int).toNat,none⟩ (.bool (rdOf false l0 aA)))) ?hg ?ho ?hn ?hr ?_;(case ho=>rfl);(case hg=>rfl);(case hn=>rfl);(case hr=>first|(go_simp;done)|(go_simp;rfl)|(obtain ⟨A_,c_,e_⟩:=Kd.R_slice aC.out;subst e_;(first|(go_simp;done)|(go_simp;rfl)))|(obtain ⟨A_,c_,e_⟩:=Kd.S_slice aC.out;subst e_;(first|(go_simp;done)|(go_simp;rfl))));intro aW hw;have hg:wr.grownBy aW (some aV):=(by rw [hw];exact aN.2);have hp_:Kd.R Kd.bool 4 aW w.heap.size (fun _=>True) (.slice (some ⟨aV,0,none⟩) aG.length bU) aI:=(by rw [hw,bA.out];exact aN.1);clear aN;replace aC:=aM (hp_);replace HB:=aM ((by rw [hw];exact below_set (HB.out) bW.out:Below w.heap.size w aW));clear hg hw hp_))
   go_roundg k1
   case measure=>have:=bG.out;omega
   case rel=>exact ⟨(aI),(wS aA),xE,H',⟨by have:=bG.out;omega⟩,⟨kr aC.out⟩,⟨bl HB.out⟩⟩

def Y33.l0:Nat→List Int→List Int→Int→Option (List Int)
 | 0,_,_,_=>none
 | k+1,x0,x3,x4=>if x4<(x0.length:Int) then (if 0≤x4 then (if x4<(x3.length:Int) then (Y33.l0 k x0 (x3.set (x4:Int).toNat (rd x0 x4)) (wrap64 (x4+1))) else (none)) else (none)) else (some x3)
def Y33.f (k:Nat) (l0:List Int):Option (List Int):=if 0≤(l0.length:Int) then (if ((l0.length:Int):Int).toNat≤35184372088832 then (Y33.l0 k l0 (List.replicate ((l0.length:Int):Int).toNat 0) 0) else (none)) else (none)
theorem Y33.mono_l:∀ k,(∀ y0 y1 y2,LeO (Y33.l0 k y0 y1 y2) (Y33.l0 (k+1) y0 y1 y2))
 | 0=>fun _ _ _ r h=>by simp [Y33.l0] at h
 | k+1=>by
  have ih0:=Y33.mono_l k
  ·intro y0 y1 y2
   unfold Y33.l0
   repeat' first|(with_reducible first|apply ih0|exact lR _|exact lN _|refine lI ?_ ?_|refine lB ?_ fun _=>?_)|exact lN _|refine lI ?_ ?_|refine lB ?_ fun _=>?_
theorem Y33.mono:∀ a0 k,LeO (Y33.f k a0) (Y33.f (k+1) a0):=by
 intro a0 k;have ih0:=Y33.mono_l k;unfold Y33.f
 repeat' first|(with_reducible first|apply ih0|exact lR _|exact lN _|refine lI ?_ ?_|refine lB ?_ fun _=>?_)|exact lN _|refine lI ?_ ?_|refine lB ?_ fun _=>?_
set_option maxHeartbeats 60000000 in
set_option maxRecDepth 100000 in
theorem Y33.calls (k:Nat) (A0:Option Addr) (c0:Nat) (l0:List Int) (r:List Int) (w:World) (hr0:Kd.C (Kd.int .i64) w A0 l0.length l0) (hc0:l0.length≤c0) (h:Y33.f k l0=some r) :
  Calls Try.prog 79 #[.slice A0 l0.length c0] w fun e w'=>∃ bD:Value,e=.returned (bD)∧Kd.R (Kd.int .i64) 3 w' w.heap.size (fun _=>True) bD r∧Below w.heap.size w w':=by
 have bT:=aM hr0;have cD:=aM hc0;clear hr0 hc0;have HB:=aM (Below.refl w.heap.size w);have H:(if 0≤(l0.length:Int) then (if ((l0.length:Int):Int).toNat≤35184372088832 then (Y33.l0 k l0 (List.replicate ((l0.length:Int):Int).toNat 0) 0) else (none)) else (none))=some r:=h;clear h
 by_cases c2:0≤(l0.length:Int)
 case neg =>
  rw [if_neg c2] at H
  exact absurd H (by simp)
 rw [if_pos c2] at H
 have bK:=eq_true c2;have bL:decide (0≤(l0.length:Int))=true:=decide_eq_true c2;clear c2
 by_cases c3:((l0.length:Int):Int).toNat≤35184372088832
 case neg =>
  rw [if_neg c3] at H
  exact absurd H (by simp)
 rw [if_pos c3] at H
 have bM:=eq_true c3;have bN:decide (((l0.length:Int):Int).toNat≤35184372088832)=true:=decide_eq_true c3;clear c3;obtain ⟨aT,aD⟩:∃ y_:List Int,y_=(List.replicate ((l0.length:Int):Int).toNat 0):=⟨_,rfl⟩;replace H:(Y33.l0 k l0 aT 0)=some r:=by first|(rw [aD];with_reducible exact H)|(have H2_:=(Option.bind_some _ _).symm.trans H;rw [aD];with_reducible exact H2_)|(have H2_:=(Option.bind_some _ _).symm.trans H;with_reducible exact H2_)|with_reducible exact H|(rw [aD];exact H)|exact H
 have aQ:=aM aD;clear aD;have H':=aM H;clear H;go_enter Try.func79,Try.ntmps79
 go_wp2_with (first|((with_reducible refine gD (N:=7) rfl ?_);refine Kd.R_make (Kd.int .i64) _ 3 rfl (N:=7) rfl 58 _ _ rfl (l0.length:Int) rfl rfl Try.underlying58 (.int .i64 0) 8 info3 rfl (by decide) (by omega) 0 (ok:=fun _=>True) (okp:=fun _=>True) rfl (fun _ hk=>hk) trivial (dT) (Nat.le_trans (Nat.mul_le_mul_right _ (dT:(l0.length:Int).toNat≤35184372088832)) (by omega)) (Below.refl _ _) (Nat.le_refl _) ?_;intro bO w4 ho5 hb hg_ hnew_;clear hg_ hnew_;(first|rw [← aQ.out] at ho5|(simp only [Int.reduceToNat] at ho5;rw [← aQ.out] at ho5));have aX:=aM (Kd.R_lower ho5 (below_size (bl HB.out)));replace HB:=rS HB hb;clear hb ho5))
 go_loopg [4] k (fun kq v4 w'=>∃ (aG:List Int) (aA:Int),v4=.int .i64 aA∧Aside0 (Y33.l0 kq l0 aG aA=some r)∧Aside0 (kq≤k)∧Aside0 (Kd.R (Kd.int .i64) 3 w' w.heap.size (fun _=>True) bO aG)∧Aside0 (Below w.heap.size w w'))
 case atStart=>exact ⟨(aT),(0),xE,H',⟨Nat.le_refl _⟩,⟨kr aX.out⟩,⟨bl HB.out⟩⟩
 case round =>
  clear H'
  repeat first|clear c2|clear bK|clear bL|clear p2|clear c3|clear bM|clear bN
  obtain ⟨aG,aA,rfl,HA,bG,aC,HB⟩:=hrel;cases gk with
  | zero=>exact absurd HA.out (by simp [Y33.l0])
  | succ k1 =>
   have H:=HA.out;clear HA;simp only [Y33.l0] at H
   by_cases c6:aA<(l0.length:Int)
   case neg =>
    rw [if_neg c6] at H
    have bP:=decide_eq_false c6;clear c6;obtain rfl:=Option.some.inj H;go_wp2
    go_ret
    exact ⟨_,xW,by (with_reducible repeat (first|apply Kd.R_alloc|apply Kd.R_drewN|apply Kd.R_drew));exact aC.out,bl HB.out⟩
   rw [if_pos c6] at H
   have bP:=decide_eq_true c6;clear c6;obtain ⟨cA,H⟩:=gI H;obtain ⟨cC,H⟩:=gI H;obtain ⟨aI,aE⟩:∃ y_:List Int,y_=(aG.set (aA:Int).toNat (rd l0 aA)):=⟨_,rfl⟩;replace H:(Y33.l0 k1 l0 aI (wS aA))=some r:=by first|(rw [aE];with_reducible exact H)|(have H2_:=(Option.bind_some _ _).symm.trans H;rw [aE];with_reducible exact H2_)|(have H2_:=(Option.bind_some _ _).symm.trans H;with_reducible exact H2_)|with_reducible exact H|(rw [aE];exact H)|exact H
   have bA:=aM aE;clear aE;have H':=aM H;clear H;have aJ:0≤(aA:Int):=dT;have aK:aA<(l0.length:Int):=dT;obtain ⟨bX,bQ,aH⟩:=Kd.at_int bT.out aA aJ aK;cases bQ
   replace aH:=xB HB aH;replace aJ:=eq_true aJ;replace aK:=eq_true aK;have p9:0≤(aA:Int):=dT;have q9:(aA:Int)<((aG.length:Int):Int):=dT;obtain ⟨aV,bU,bH,bI,bV,cE,bJ⟩:=Kd.R_form aC.out (by omega)
   (first|cases bH|(injection bH with ea_ en_ ec_;(first|subst ea_|(injection ea_ with ea_;subst ea_));subst ec_;clear en_))
   have bW:=aM bI;have cG:=aM bJ;clear bI bV bJ;obtain ⟨bY,bZ⟩:=Kd.R_celln 0 aC.out (aA:Int) p9 q9;replace p9:=eq_true p9;replace q9:=eq_true q9;have aN:=Kd.R_putg aC.out (aA:Int) (rd l0 aA);go_wp2_with (first|((with_reducible refine gate_store (t:=3) (p:=20) rfl ?_);refine store_event (t:=3) (p:=20) (v:=?vo_w11) (w1:=(wr.setCell ⟨aV,(aA:Int).toNat,none⟩ (.int .i64 (rd l0 aA)))) ?hg ?ho ?hn ?hr ?_;(case ho=>rfl);(case hg=>rfl);(case hn=>rfl);(case hr=>first|(go_simp;done)|(go_simp;rfl)|(obtain ⟨A_,c_,e_⟩:=Kd.R_slice aC.out;subst e_;(first|(go_simp;done)|(go_simp;rfl)))|(obtain ⟨A_,c_,e_⟩:=Kd.S_slice aC.out;subst e_;(first|(go_simp;done)|(go_simp;rfl))));intro aW hw;have hg:wr.grownBy aW (some aV):=(by rw [hw];exact aN.2);have hp_:Kd.R (Kd.int .i64) 3 aW w.heap.size (fun _=>True) (.slice (some ⟨aV,0,none⟩) aG.length bU) aI:=(by rw [hw,bA.out];exact aN.1);clear aN;replace aC:=aM (hp_);replace HB:=aM ((by rw [hw];exact below_set (HB.out) bW.out:Below w.heap.size w aW));clear hg hw hp_))
   go_roundg k1
   case measure=>have:=bG.out;omega
   case rel=>exact ⟨(aI),(wS aA),xE,H',⟨by have:=bG.out;omega⟩,⟨kr aC.out⟩,⟨bl HB.out⟩⟩

def Y56.f (k:Nat) (aA:Int) (aC:List Int):Option (Int × List Int):=(Y33.f k aC).bind fun aD=>(some (aA,aD))
theorem Y56.mono:∀ a0 a1 k,LeO (Y56.f k a0 a1) (Y56.f (k+1) a0 a1):=by
 intro a0 a1 k;unfold Y56.f
 repeat' first|(with_reducible first|apply Y33.mono|exact lR _|exact lN _|refine lI ?_ ?_|refine lB ?_ fun _=>?_)|exact lN _|refine lI ?_ ?_|refine lB ?_ fun _=>?_
set_option maxHeartbeats 60000000 in
set_option maxRecDepth 100000 in
theorem Y56.calls (k:Nat) (aE:Int) (aI:Option Addr) (aJ:Nat) (aD:List Int) (r1:Int) (r2:List Int) (w:World) (hr0_1:Kd.C (Kd.int .i64) w aI aD.length aD) (hc0_1:aD.length≤aJ) (h:Y56.f k aE aD=some (r1,r2)) :
  Calls Try.prog 60 #[.agg #[aE,.slice aI aD.length aJ]] w fun e w'=>∃ bK:Value,e=.returned (.agg #[r1,bK])∧Kd.R (Kd.int .i64) 3 w' w.heap.size (fun _=>True) bK r2∧Below w.heap.size w w':=by
 have bZ:=Try.underlying79;have cA:=Try.underlying60;have bI:=aM hr0_1;have bJ:=aM hc0_1;clear hr0_1 hc0_1;have HB:=aM (Below.refl w.heap.size w);have H:((Y33.f k aD).bind fun aH=>(some (aE,aH)))=some (r1,r2):=h
 clear h;obtain ⟨aH,bL,H⟩:=hB H;have A2:=aM bL;clear bL;simp only [Option.some.injEq,Prod.mk.injEq] at H;obtain ⟨rfl,rfl⟩:=H;go_enter Try.func60,Try.ntmps60
 go_wp2_with (first|((with_reducible refine gD (N:=1) rfl ?_);refine bE (N:=1) (cs:=#[aE,.slice aI aD.length aJ]) (t:=79) ?_;intro bN hg w3 hbox hb;have aA:=aM (hbox);have bO:=gF hg HB;have bP:=gF hg HB;replace HB:=rS HB hb;clear hb hbox hg)|((with_reducible refine gD (N:=2) rfl ?_);refine bE (N:=2) (cs:=#[.int .i64 0,.slice none 0 0]) (t:=60) ?_;intro aK hg w4 hbox hb;have aC:=aM (hbox);have bQ:=gF hg HB;have bT:=gF hg HB;have aN:=nM hg aA;have aQ:=nH hg aA;replace aA:=rB aA hb;replace HB:=rS HB hb;clear hb hbox hg)|((with_reducible refine gD (N:=3) rfl ?_);refine bE (N:=3) (cs:=#[.int .i64 0,.slice none 0 0]) (t:=60) ?_;intro bG hg w5 hbox hb;have aG:=aM (hbox);have bU:=gF hg HB;have bV:=gF hg HB;have aT:=nM hg aA;have aV:=nH hg aA;have aW:=nM hg aC;have aX:=nH hg aC;replace aA:=rB aA hb;replace aC:=rB aC hb;replace HB:=rS HB hb;clear hb hbox hg;have cC:=aN.out;have cD:=aQ.out;have cE:=aT.out;have cG:=aV.out;have cH:=cA2 aA.out;have cK:=aX.out;have cL:=aW.out;have bW:=cA2 aG.out)|((with_reducible refine gC (f:=79) rfl ?_);refine gL (some 9) Try.func79 #[.slice aI aD.length aJ] ?_;(with_reducible refine (Y33.calls k _ _ aD aH _ ?side1 ?side2 A2.out).mono ?_);(case side1=>exact cB bI.out (bl HB.out));(case side2=>exact bJ.out);rintro e cO ⟨cN,rfl,ho0,hb⟩;refine ⟨_,rfl,?_⟩;have bH:=aM (Kd.R_lower ho0 (below_size (bl HB.out)));replace aA:=aM (bB (fm aA.out) hb);replace aC:=aM (bB (fm aC.out) hb);replace aG:=aM (bB (g:=bG) (o:=.cells #[aE,.slice none 0 0] 60 (0,0)) (by (with_reducible repeat (first|refine blk_drewN ?_ _|refine blk_drew ?_|refine blk_alloc ?_ _));refine blk_put (cs:=#[.int .i64 0,.slice none 0 0]) ?_ 0 _ rfl;(with_reducible repeat (first|refine blk_drewN ?_ _|refine blk_drew ?_|refine blk_alloc ?_ _));exact aG.out) hb);replace HB:=rS HB hb;(repeat first|clear hb|clear ho0);obtain ⟨bA,bD,bM⟩:=Kd.R_slice bH.out;subst bM;have bX:=cA2 aG.out;have bY:=cA2 aC.out))
 refine bodyPost_ret (results_cell_row rfl _ _ aK 60 #[aE,.slice bA aH.length bD] (0,0) _ rfl (bm aC.out) Try.underlying60 rfl (by kernel_rfl)) rfl ?_
 exact ⟨_,xW,by (with_reducible repeat (first|apply Kd.R_alloc|apply Kd.R_drewN|apply Kd.R_drew));exact Kd.R_mono (kF (p:=⟨aK,1,none⟩) (kF (p:=⟨aK,0,none⟩) (kF (p:=⟨bG,1,none⟩) (Kd.R_types (Kd.R_types bH.out aG.out (by decide)) aC.out (by decide)) (fun _ hk=>hk.1.2) (.slice bA aH.length bD)) (fun _ hk=>hk.2) (.int .i64 aE)) (fun _ hk=>hk.2) (.slice bA aH.length bD)) (fun _ hk=>trivial),bl HB.out⟩

def Y29.l0:Nat→List (S79)→List (S60)→Int→Option ((List (S60)))
 | 0,_,_,_=>none
 | k+1,x0,x3,x4=>if x4<(x0.length:Int) then (if 0≤x4 then ((Y56.f k ((rd_T79 x0 x4).f0) ((rd_T79 x0 x4).f1)).bind fun aA=>(if x4<(x3.length:Int) then (Y29.l0 k x0 (x3.set (x4:Int).toNat (⟨aA.1,aA.2⟩:S60)) (wrap64 (x4+1))) else (none))) else (none)) else (some x3)
def Y29.f (k:Nat) (l0:List (S79)):Option ((List (S60))):=if 0≤(l0.length:Int) then (if ((l0.length:Int):Int).toNat≤8796093022208 then (Y29.l0 k l0 (List.replicate ((l0.length:Int):Int).toNat z60) 0) else (none)) else (none)
theorem Y29.mono_l:∀ k,(∀ y0 y1 y2,LeO (Y29.l0 k y0 y1 y2) (Y29.l0 (k+1) y0 y1 y2))
 | 0=>fun _ _ _ r h=>by simp [Y29.l0] at h
 | k+1=>by
  have ih0:=Y29.mono_l k
  ·intro y0 y1 y2
   unfold Y29.l0
   repeat' first|(with_reducible first|apply ih0|apply Y56.mono|exact lR _|exact lN _|refine lI ?_ ?_|refine lB ?_ fun _=>?_)|exact lN _|refine lI ?_ ?_|refine lB ?_ fun _=>?_
theorem Y29.mono:∀ a0 k,LeO (Y29.f k a0) (Y29.f (k+1) a0):=by
 intro a0 k;have ih0:=Y29.mono_l k;unfold Y29.f
 repeat' first|(with_reducible first|apply ih0|apply Y56.mono|exact lR _|exact lN _|refine lI ?_ ?_|refine lB ?_ fun _=>?_)|exact lN _|refine lI ?_ ?_|refine lB ?_ fun _=>?_
set_option maxHeartbeats 60000000 in
set_option maxRecDepth 100000 in
theorem Y29.calls (k:Nat) (A0:Option Addr) (c0:Nat) (l0:List (S79)) (r:List (S60)) (w:World) (hr0:Kd.C k79 w A0 l0.length l0) (hc0:l0.length≤c0) (h:Y29.f k l0=some r) :
  Calls Try.prog 30 #[.slice A0 l0.length c0] w fun e w'=>∃ cK:Value,e=.returned (cK)∧Kd.S k60 60 w' w.heap.size (fun _=>True) cK r∧Below w.heap.size w w':=by
 have dI:=Try.underlying79;have dJ:=Try.underlying60;have cX:=aM hr0;have dQ:=aM hc0;clear hr0 hc0;have HB:=aM (Below.refl w.heap.size w);have H:(if 0≤(l0.length:Int) then (if ((l0.length:Int):Int).toNat≤8796093022208 then (Y29.l0 k l0 (List.replicate ((l0.length:Int):Int).toNat z60) 0) else (none)) else (none))=some r:=h;clear h
 by_cases c2:0≤(l0.length:Int)
 case neg =>
  rw [if_neg c2] at H
  exact absurd H (by simp)
 rw [if_pos c2] at H
 have cO:=eq_true c2;have cP:decide (0≤(l0.length:Int))=true:=decide_eq_true c2;clear c2
 by_cases c3:((l0.length:Int):Int).toNat≤8796093022208
 case neg =>
  rw [if_neg c3] at H
  exact absurd H (by simp)
 rw [if_pos c3] at H
 have cQ:=eq_true c3;have cR:decide (((l0.length:Int):Int).toNat≤8796093022208)=true:=decide_eq_true c3;clear c3;obtain ⟨bN,aG⟩:∃ y_:List (S60),y_=(List.replicate ((l0.length:Int):Int).toNat z60):=⟨_,rfl⟩;replace H:(Y29.l0 k l0 bN 0)=some r:=by first|(rw [aG];with_reducible exact H)|(have H2_:=(Option.bind_some _ _).symm.trans H;rw [aG];with_reducible exact H2_)|(have H2_:=(Option.bind_some _ _).symm.trans H;with_reducible exact H2_)|with_reducible exact H|(rw [aG];exact H)|exact H
 have bK:=aM aG;clear aG;have H':=aM H;clear H;go_enter Try.func30,Try.ntmps30
 go_wp2_with (first|((with_reducible refine gD (N:=7) rfl ?_);refine Kd.S_make k60 _ 60 rfl (N:=7) rfl 32 _ _ rfl (l0.length:Int) rfl rfl Try.underlying32 (.agg #[(.int .i64 0),(.slice none 0 0)]) 32 info60 rfl (by decide) (by omega) z60 (ok:=fun _=>True) (okp:=fun _=>True) (k60_mkM _ _ _ z60 (Kd.R_nil _ _ _ _ _)) (fun _ hk=>hk) trivial (dT) (Nat.le_trans (Nat.mul_le_mul_right _ (dT:(l0.length:Int).toNat≤8796093022208)) (by omega)) (Below.refl _ _) (Nat.le_refl _) ?_;intro cS w4 ho5 hb hg_ hnew_;clear hg_ hnew_;(first|rw [← bK.out] at ho5|(simp only [Int.reduceToNat] at ho5;rw [← bK.out] at ho5));have cD:=aM (Kd.S_lower ho5 (below_size (bl HB.out)));replace HB:=rS HB hb;clear hb ho5))
 go_loopg [4] k (fun kq v4 w'=>∃ (aD:List (S60)) (aA:Int),v4=.int .i64 aA∧Aside0 (Y29.l0 kq l0 aD aA=some r)∧Aside0 (kq≤k)∧Aside0 (Kd.S k60 60 w' w.heap.size (fun _=>True) cS aD)∧Aside0 (Below w.heap.size w w'))
 case atStart=>exact ⟨(bN),(0),xE,H',⟨Nat.le_refl _⟩,⟨ks cD.out⟩,⟨bl HB.out⟩⟩
 case round =>
  clear H'
  repeat first|clear c2|clear cO|clear cP|clear p2|clear c3|clear cQ|clear cR
  obtain ⟨aD,aA,rfl,HA,cL,aC,HB⟩:=hrel;cases gk with
  | zero=>exact absurd HA.out (by simp [Y29.l0])
  | succ k1 =>
   have H:=HA.out;clear HA;simp only [Y29.l0] at H
   by_cases c6:aA<(l0.length:Int)
   case neg =>
    rw [if_neg c6] at H
    have cT:=decide_eq_false c6;clear c6;obtain rfl:=Option.some.inj H;go_wp2
    go_ret
    exact ⟨_,xW,ks aC.out,bl HB.out⟩
   rw [if_pos c6] at H
   have cT:=decide_eq_true c6;clear c6;obtain ⟨dK,H⟩:=gI H;obtain ⟨⟨aJ,aT⟩,cN,H⟩:=hB H
   try dsimp only at H
   have A8:=aM cN;clear cN;obtain ⟨dL,H⟩:=gI H;obtain ⟨bG,aH⟩:∃ y_:List (S60),y_=(aD.set (aA:Int).toNat (⟨aJ,aT⟩:S60)):=⟨_,rfl⟩;replace H:(Y29.l0 k1 l0 bG (wS aA))=some r:=by first|(rw [aH];with_reducible exact H)|(have H2_:=(Option.bind_some _ _).symm.trans H;rw [aH];with_reducible exact H2_)|(have H2_:=(Option.bind_some _ _).symm.trans H;with_reducible exact H2_)|with_reducible exact H|(rw [aH];exact H)|exact H
   have cE:=aM aH;clear aH;have H':=aM H;clear H;have bH:0≤(aA:Int):=dT;have bI:aA<(l0.length:Int):=dT;obtain ⟨dH,bO,bP,cU,aN,aQ,hl312_1,hi312_1⟩:=at_T79 cX.out aA bH bI;cases cU
   replace aN:=xB HB aN;replace aQ:=xB HB aQ;have bL:=aM hi312_1;have bM:=aM hl312_1;clear hi312_1 hl312_1;replace bH:=eq_true bH;replace bI:=eq_true bI;go_wp2_with (first|((with_reducible refine gC (f:=60) rfl ?_);refine gL (some 20) Try.func60 #[.agg #[((rd_T79 l0 aA).f0),.slice bO ((rd_T79 l0 aA).f1).length bP]] ?_;(with_reducible refine (Y56.calls k1 ((rd_T79 l0 aA).f0) _ _ ((rd_T79 l0 aA).f1) aJ aT _ ?side1 ?side2 A8.out).mono ?_);(case side1=>exact cM (cB bL.out HB.out));(case side2=>exact bM.out);rintro e aK ⟨aV,rfl,ho0,hb⟩;refine ⟨_,rfl,?_⟩;have aI:=aM (Kd.R_lower ho0 (below_size (bl HB.out)));replace aC:=aM (Kd.S_elder' (ks aC.out) (Kd.R_base ho0) hb);replace HB:=rS HB hb;(repeat first|clear hb|clear ho0);have bQ:0≤(aA:Int):=dT;have bT:(aA:Int)<((aD.length:Int):Int):=dT;obtain ⟨aE,bU,bV,bW,cV,dM,bX⟩:=Kd.S_form aC.out (by omega);(first|cases bV|(injection bV with ea_ en_ ec_;(first|subst ea_|(injection ea_ with ea_;subst ea_));subst ec_;clear en_));have bY:=aM bW;have dN:=aM bX;clear bW cV bX;obtain ⟨_,dO,cG,bZ,aW,aX,_,_⟩:=Kd.S_elem aC.out z60 (aA:Int) bQ bT;obtain ⟨ve10_1,rfl,ge10_1⟩:=k60_openM bZ;have cY:aK.cell? ⟨aE,(aA:Int).toNat*2,none⟩=some ((rd_T60 aD aA).f0):=aW 0 _ rfl;have dA:aK.cell? ⟨aE,(aA:Int).toNat*2+1,none⟩=some (ve10_1):=aW 1 _ rfl;have dB:aK.frozen? ⟨aE,(aA:Int).toNat*2,none⟩=false:=aX 0;have dC:aK.frozen? ⟨aE,(aA:Int).toNat*2+1,none⟩=false:=aX 1;clear cG aW aX bZ;replace bQ:=eq_true bQ;replace bT:=eq_true bT;have n_:=aM (Kd.S_mono (ok':=(fun k_=>some k_≠(aV:Value).ownBlock)) aC.out (fun k_ hk=>hk.2));clear aC;have aC:=n_;clear n_;have cW:=aM (show Kd.S k60 60 aK w.heap.size (fun k_=>((fun _=>True)) k_∧¬ ((fun k_=>some k_=(aV:Value).ownBlock)) k_) (.slice (some ⟨aE,0,none⟩) aD.length bU) aD from (ks (Kd.S_mono aC.out (fun k_ hk=>⟨trivial,fun e_=>hk e_⟩))));obtain ⟨oki12,dP,cH,cA,bA,bD,hoki12,hH12⟩:=Kd.S_elem cW.out z60 (aA:Int) (dT) (by have h_:(aA:Int)<((aD.length:Int):Int):=dT;first|exact h_|(have e_:=(Kd.S_reads' aC.out).1;omega)|simpa using h_);obtain ⟨ve12_1,rfl,ge12_1⟩:=k60_openM cA;have bJ:=Kd.S_seg hH12 (dT) (by have h_:(aA:Int)<((aD.length:Int):Int):=dT;first|exact h_|(have e_:=(Kd.S_reads' aC.out).1;omega)|simpa using h_) (seg:=[.int .i64 aJ,aV]) (j:=0) (show 2≤2 from by decide) (x':=(⟨aJ,aT⟩:S60)) (k60_mkM _ _ _ (⟨aJ,aT⟩:S60) (Kd.R_mono (Kd.R_tight rfl (Kd.R_mono (ok':=fun k_=>((fun _=>True)) k_∧k_≠aE) (Kd.R_apart' (aI.out) (Kd.S_typed aC.out) (by decide)) (fun k_ hk=>⟨trivial,fun e_=>(hk.2) (by rw [e_];rfl)⟩))) (fun _ h_=>Or.inr (h_)))) (fun _ hk=>hk) (fun k_ hk_=>((Kd.R_mono (ok':=fun k_=>((fun _=>True)) k_∧k_≠aE) (Kd.R_apart' (aI.out) (Kd.S_typed aC.out) (by decide)) (fun k_ hk=>⟨trivial,fun e_=>(hk.2) (by rw [e_];rfl)⟩))).1 k_ hk_.symm);have dD:=cZ 2 (bA 0 _ rfl);have dE:=fZ 2 (bD 0);have dF:=cJ 2 (bA 1 _ rfl);have dG:=fJ 2 (bD 1);clear cH bA bD cA hoki12 hH12)|((with_reducible refine gate_store (t:=60) (p:=21) rfl ?_);refine store_event (t:=60) (p:=21) (v:=?vo_w13) (w1:=((aK.setCell ⟨aE,(aA:Int).toNat*2,none⟩ (.int .i64 aJ)).setCell ⟨aE,(aA:Int).toNat*2+1,none⟩ (aV))) ?hg ?ho ?hn ?hr ?_;(case ho=>rfl);(case hg=>rfl);(case hn=>rfl);(case hr=>first|(go_simp;done)|(go_simp;rfl)|(obtain ⟨A_,c_,e_⟩:=Kd.R_slice aI.out;subst e_;(first|(go_simp;done)|(go_simp;rfl)))|(obtain ⟨A_,c_,e_⟩:=Kd.S_slice aI.out;subst e_;(first|(go_simp;done)|(go_simp;rfl)))|(obtain ⟨A_,c_,e_⟩:=Kd.R_slice aC.out;subst e_;(first|(go_simp;done)|(go_simp;rfl)))|(obtain ⟨A_,c_,e_⟩:=Kd.S_slice aC.out;subst e_;(first|(go_simp;done)|(go_simp;rfl))));intro cC hw;have hg:aK.grownBy cC (some aE):=(by rw [hw];exact bJ.2);have hp_:Kd.S k60 60 cC w.heap.size (fun _=>True) (.slice (some ⟨aE,0,none⟩) aD.length bU) bG:=(by rw [hw,cE.out];exact bJ.1);clear bJ;replace aC:=aM (hp_);replace HB:=aM ((by rw [hw];exact below_set (below_set (HB.out) bY.out) bY.out:Below w.heap.size w cC));clear aI;clear hg hw hp_))
   go_roundg k1
   case measure=>have:=cL.out;omega
   case rel=>exact ⟨(bG),(wS aA),xE,H',⟨by have:=cL.out;omega⟩,⟨ks aC.out⟩,⟨bl HB.out⟩⟩

def Y83.f (aA aC aD aE:Int):Option (Int × Int × Int × Int):=some (aA,aC,aD,aE)
set_option maxHeartbeats 60000000 in
set_option maxRecDepth 100000 in
theorem Y83.calls (aD aE aG aH r1 r2 r3 r4:Int) (w:World) (h:Y83.f aD aE aG aH=some (r1,r2,r3,r4)) :
  Calls Try.prog 61 #[.agg #[aD,aE,aG,aH]] w fun e w'=>e=.returned (.agg #[r1,r2,r3,r4])∧Below w.heap.size w w':=by
 have bM:=Try.underlying90;have bN:=Try.underlying86;have HB:=aM (Below.refl w.heap.size w);have H:(some (aD,aE,aG,aH))=some (r1,r2,r3,r4):=h;clear h;simp only [Option.some.injEq,Prod.mk.injEq] at H;obtain ⟨rfl,rfl,rfl,rfl⟩:=H;go_enter Try.func61,Try.ntmps61
 go_wp2_with (first|((with_reducible refine gD (N:=1) rfl ?_);refine bE (N:=1) (cs:=#[aD,aE,aG,aH]) (t:=90) ?_;intro aX hg w2 hbox hb;have aA:=aM (hbox);have bA:=gF hg HB;have bD:=gF hg HB;replace HB:=rS HB hb;clear hb hbox hg)|((with_reducible refine gD (N:=2) rfl ?_);refine bE (N:=2) (cs:=#[.int .i64 0,.int .i64 0,.int .i64 0,.int .i64 0]) (t:=86) ?_;intro aV hg w3 hbox hb;have aC:=aM (hbox);have bG:=gF hg HB;have bH:=gF hg HB;have aI:=nM hg aA;have aJ:=nH hg aA;replace aA:=rB aA hb;replace HB:=rS HB hb;clear hb hbox hg)|((with_reducible refine gD (N:=3) rfl ?_);refine bE (N:=3) (cs:=#[.int .i64 0,.int .i64 0,.int .i64 0,.int .i64 0]) (t:=86) ?_;intro bI hg w4 hbox hb;have aW:=aM (hbox);have bJ:=gF hg HB;have bK:=gF hg HB;have aK:=nM hg aA;have aN:=nH hg aA;have aQ:=nM hg aC;have aT:=nH hg aC;replace aA:=rB aA hb;replace aC:=rB aC hb;replace HB:=rS HB hb;clear hb hbox hg;have bO:=aI.out;have bP:=aJ.out;have bQ:=aK.out;have bT:=aN.out;have bU:=cA4 aA.out;have bV:=aT.out;have bW:=aQ.out;have bX:=cA4 aW.out;have bL:=cA4 aC.out))
 refine bodyPost_ret (results_cell_row rfl _ _ aV 86 #[aD,aE,aG,aH] (0,0) _ rfl (bm aC.out) Try.underlying86 rfl (by kernel_rfl)) rfl ?_
 exact ⟨xW,bl HB.out⟩

def Y31.l0:Nat→List (S90)→List (S86)→Int→Option ((List (S86)))
 | 0,_,_,_=>none
 | k+1,x0,x3,x4=>if x4<(x0.length:Int) then (if 0≤x4 then ((Y83.f ((rd_T90 x0 x4).f0) ((rd_T90 x0 x4).f1) ((rd_T90 x0 x4).f2) ((rd_T90 x0 x4).f3)).bind fun aA=>(if x4<(x3.length:Int) then (Y31.l0 k x0 (x3.set (x4:Int).toNat (⟨aA.1,aA.2.1,aA.2.2.1,aA.2.2.2⟩:S86)) (wrap64 (x4+1))) else (none))) else (none)) else (some x3)
def Y31.f (k:Nat) (l0:List (S90)):Option ((List (S86))):=if 0≤(l0.length:Int) then (if ((l0.length:Int):Int).toNat≤8796093022208 then (Y31.l0 k l0 (List.replicate ((l0.length:Int):Int).toNat z86) 0) else (none)) else (none)
theorem Y31.mono_l:∀ k,(∀ y0 y1 y2,LeO (Y31.l0 k y0 y1 y2) (Y31.l0 (k+1) y0 y1 y2))
 | 0=>fun _ _ _ r h=>by simp [Y31.l0] at h
 | k+1=>by
  have ih0:=Y31.mono_l k
  ·intro y0 y1 y2
   unfold Y31.l0
   repeat' first|(with_reducible first|apply ih0|exact lR _|exact lN _|refine lI ?_ ?_|refine lB ?_ fun _=>?_)|exact lN _|refine lI ?_ ?_|refine lB ?_ fun _=>?_
theorem Y31.mono:∀ a0 k,LeO (Y31.f k a0) (Y31.f (k+1) a0):=by
 intro a0 k;have ih0:=Y31.mono_l k;unfold Y31.f
 repeat' first|(with_reducible first|apply ih0|exact lR _|exact lN _|refine lI ?_ ?_|refine lB ?_ fun _=>?_)|exact lN _|refine lI ?_ ?_|refine lB ?_ fun _=>?_
set_option maxHeartbeats 60000000 in
set_option maxRecDepth 100000 in
theorem Y31.calls (k:Nat) (A0:Option Addr) (c0:Nat) (l0:List (S90)) (r:List (S86)) (w:World) (hr0:Kd.C k90 w A0 l0.length l0) (hc0:l0.length≤c0) (h:Y31.f k l0=some r) :
  Calls Try.prog 31 #[.slice A0 l0.length c0] w fun e w'=>∃ cH:Value,e=.returned (cH)∧Kd.R k86 86 w' w.heap.size (fun _=>True) cH r∧Below w.heap.size w w':=by
 have dO:=Try.underlying90;have dP:=Try.underlying86;have cV:=aM hr0;have dX:=aM hc0;clear hr0 hc0;have HB:=aM (Below.refl w.heap.size w);have H:(if 0≤(l0.length:Int) then (if ((l0.length:Int):Int).toNat≤8796093022208 then (Y31.l0 k l0 (List.replicate ((l0.length:Int):Int).toNat z86) 0) else (none)) else (none))=some r:=h;clear h
 by_cases c2:0≤(l0.length:Int)
 case neg =>
  rw [if_neg c2] at H
  exact absurd H (by simp)
 rw [if_pos c2] at H
 have cN:=eq_true c2;have cO:decide (0≤(l0.length:Int))=true:=decide_eq_true c2;clear c2
 by_cases c3:((l0.length:Int):Int).toNat≤8796093022208
 case neg =>
  rw [if_neg c3] at H
  exact absurd H (by simp)
 rw [if_pos c3] at H
 have cP:=eq_true c3;have cQ:decide (((l0.length:Int):Int).toNat≤8796093022208)=true:=decide_eq_true c3;clear c3;obtain ⟨bO,aH⟩:∃ y_:List (S86),y_=(List.replicate ((l0.length:Int):Int).toNat z86):=⟨_,rfl⟩;replace H:(Y31.l0 k l0 bO 0)=some r:=by first|(rw [aH];with_reducible exact H)|(have H2_:=(Option.bind_some _ _).symm.trans H;rw [aH];with_reducible exact H2_)|(have H2_:=(Option.bind_some _ _).symm.trans H;with_reducible exact H2_)|with_reducible exact H|(rw [aH];exact H)|exact H
 have bK:=aM aH;clear aH;have H':=aM H;clear H;go_enter Try.func31,Try.ntmps31
 go_wp2_with (first|((with_reducible refine gD (N:=7) rfl ?_);refine Kd.R_make k86 _ 86 rfl (N:=7) rfl 33 _ _ rfl (l0.length:Int) rfl rfl Try.underlying33 (.agg #[(.int .i64 0),(.int .i64 0),(.int .i64 0),(.int .i64 0)]) 32 info86 rfl (by decide) (by omega) z86 (ok:=fun _=>True) (okp:=fun _=>True) (k86_mkM _ _ _ z86 ) (fun _ hk=>hk) trivial (dT) (Nat.le_trans (Nat.mul_le_mul_right _ (dT:(l0.length:Int).toNat≤8796093022208)) (by omega)) (Below.refl _ _) (Nat.le_refl _) ?_;intro cR w4 ho5 hb hg_ hnew_;clear hg_ hnew_;(first|rw [← bK.out] at ho5|(simp only [Int.reduceToNat] at ho5;rw [← bK.out] at ho5));have cD:=aM (Kd.R_lower ho5 (below_size (bl HB.out)));replace HB:=rS HB hb;clear hb ho5))
 go_loopg [4] k (fun kq v4 w'=>∃ (aD:List (S86)) (aA:Int),v4=.int .i64 aA∧Aside0 (Y31.l0 kq l0 aD aA=some r)∧Aside0 (kq≤k)∧Aside0 (Kd.R k86 86 w' w.heap.size (fun _=>True) cR aD)∧Aside0 (Below w.heap.size w w'))
 case atStart=>exact ⟨(bO),(0),xE,H',⟨Nat.le_refl _⟩,⟨kr cD.out⟩,⟨bl HB.out⟩⟩
 case round =>
  clear H'
  repeat first|clear c2|clear cN|clear cO|clear p2|clear c3|clear cP|clear cQ
  obtain ⟨aD,aA,rfl,HA,cK,aC,HB⟩:=hrel;cases gk with
  | zero=>exact absurd HA.out (by simp [Y31.l0])
  | succ k1 =>
   have H:=HA.out;clear HA;simp only [Y31.l0] at H
   by_cases c6:aA<(l0.length:Int)
   case neg =>
    rw [if_neg c6] at H
    have cS:=decide_eq_false c6;clear c6;obtain rfl:=Option.some.inj H;go_wp2
    go_ret
    exact ⟨_,xW,by (with_reducible repeat (first|apply Kd.R_alloc|apply Kd.R_drewN|apply Kd.R_drew));exact aC.out,bl HB.out⟩
   rw [if_pos c6] at H
   have cS:=decide_eq_true c6;clear c6;obtain ⟨dQ,H⟩:=gI H;obtain ⟨⟨aK,aN,aQ,aT⟩,cL,H⟩:=hB H
   try dsimp only at H
   have A8:=aM cL;clear cL;obtain ⟨dR,H⟩:=gI H;obtain ⟨bG,aI⟩:∃ y_:List (S86),y_=(aD.set (aA:Int).toNat (⟨aK,aN,aQ,aT⟩:S86)):=⟨_,rfl⟩;replace H:(Y31.l0 k1 l0 bG (wS aA))=some r:=by first|(rw [aI];with_reducible exact H)|(have H2_:=(Option.bind_some _ _).symm.trans H;rw [aI];with_reducible exact H2_)|(have H2_:=(Option.bind_some _ _).symm.trans H;with_reducible exact H2_)|with_reducible exact H|(rw [aI];exact H)|exact H
   have cE:=aM aI;clear aI;have H':=aM H;clear H;have bH:0≤(aA:Int):=dT;have bI:aA<(l0.length:Int):=dT;obtain ⟨dN,cT,aV,aW,aX,bA⟩:=at_T90 cV.out aA bH bI;cases cT
   replace aV:=xB HB aV;replace aW:=xB HB aW;replace aX:=xB HB aX;replace bA:=xB HB bA;replace bH:=eq_true bH;replace bI:=eq_true bI;go_wp2_with (first|((with_reducible refine gC (f:=61) rfl ?_);refine gL (some 20) Try.func61 #[.agg #[((rd_T90 l0 aA).f0),((rd_T90 l0 aA).f1),((rd_T90 l0 aA).f2),((rd_T90 l0 aA).f3)]] ?_;(with_reducible refine (Y83.calls ((rd_T90 l0 aA).f0) ((rd_T90 l0 aA).f1) ((rd_T90 l0 aA).f2) ((rd_T90 l0 aA).f3) aK aN aQ aT _ A8.out).mono ?_);rintro e bP ⟨rfl,hb⟩;refine ⟨_,rfl,?_⟩;replace aC:=rK aC hb;replace HB:=rS HB hb;(try clear hb);have bQ:0≤(aA:Int):=dT;have bT:(aA:Int)<((aD.length:Int):Int):=dT;obtain ⟨aG,bU,bV,bW,cU,dS,bX⟩:=Kd.R_form aC.out (by omega);(first|cases bV|(injection bV with ea_ en_ ec_;(first|subst ea_|(injection ea_ with ea_;subst ea_));subst ec_;clear en_));have bD:=aM bW;have dU:=aM bX;clear bW cU bX;obtain ⟨dV,cG,bY,bL,bM⟩:=Kd.R_elem aC.out z86 (aA:Int) bQ bT;obtain rfl:=k86_openM bY;obtain ⟨cW,cX,cY,dA,dB,dC,dD,dE⟩:=eS86 (rd_T86 aD aA) bL bM;clear cG bL bM bY;replace bQ:=eq_true bQ;replace bT:=eq_true bT;have bZ:=aM (show Kd.R k86 86 bP w.heap.size (fun _=>True) (.slice (some ⟨aG,0,none⟩) aD.length bU) aD from (kr aC.out));obtain ⟨dW,bN,cA,aE,aJ⟩:=Kd.R_elem bZ.out z86 (aA:Int) (dT) dT;obtain rfl:=k86_openM cA;have bJ:=Kd.R_seg bZ.out (aA:Int) (dT) dT (seg:=[.int .i64 aK,.int .i64 aN,.int .i64 aQ,.int .i64 aT]) (j:=0) bN aE (show 4≤4 from by decide) (x':=(⟨aK,aN,aQ,aT⟩:S86)) (k86_mkM _ _ _ _) (fun _ hk=>hk);have dF:=cZ 4 (aE 0 _ rfl);have dG:=fZ 4 (aJ 0);have dH:=cJ 4 (aE 1 _ rfl);have dI:=fJ 4 (aJ 1);have dJ:=cJ 4 (aE 2 _ rfl);have dK:=fJ 4 (aJ 2);have dL:=cJ 4 (aE 3 _ rfl);have dM:=fJ 4 (aJ 3);clear bN aE aJ cA)|((with_reducible refine gate_store (t:=86) (p:=21) rfl ?_);refine store_event (t:=86) (p:=21) (v:=?vo_w13) (w1:=((((bP.setCell ⟨aG,(aA:Int).toNat*4,none⟩ (.int .i64 aK)).setCell ⟨aG,(aA:Int).toNat*4+1,none⟩ (.int .i64 aN)).setCell ⟨aG,(aA:Int).toNat*4+2,none⟩ (.int .i64 aQ)).setCell ⟨aG,(aA:Int).toNat*4+3,none⟩ (.int .i64 aT))) ?hg ?ho ?hn ?hr ?_;(case ho=>rfl);(case hg=>rfl);(case hn=>rfl);(case hr=>first|(go_simp;done)|(go_simp;rfl)|(obtain ⟨A_,c_,e_⟩:=Kd.R_slice aC.out;subst e_;(first|(go_simp;done)|(go_simp;rfl)))|(obtain ⟨A_,c_,e_⟩:=Kd.S_slice aC.out;subst e_;(first|(go_simp;done)|(go_simp;rfl))));intro cC hw;have hg:bP.grownBy cC (some aG):=(by rw [hw];exact bJ.2);have hp_:Kd.R k86 86 cC w.heap.size (fun _=>True) (.slice (some ⟨aG,0,none⟩) aD.length bU) bG:=(by rw [hw,cE.out];exact bJ.1);clear bJ;replace aC:=aM (hp_);replace HB:=aM ((by rw [hw];exact below_set (below_set (below_set (below_set (HB.out) bD.out) bD.out) bD.out) bD.out:Below w.heap.size w cC));clear hg hw hp_))
   go_roundg k1
   case measure=>have:=cK.out;omega
   case rel=>exact ⟨(bG),(wS aA),xE,H',⟨by have:=cK.out;omega⟩,⟨kr aC.out⟩,⟨bl HB.out⟩⟩

def Y63.f (k:Nat) (aA:List Bool) (aC:List (S79)) (aD:List (S90)):Option (List Bool × (List (S60)) × (List (S86))):=(Y32.f k aA).bind fun aE=>((Y29.f k aC).bind fun aG=>((Y31.f k aD).bind fun aH=>(some (aE,aG,aH))))
theorem Y63.mono:∀ a0 a1 a2 k,LeO (Y63.f k a0 a1 a2) (Y63.f (k+1) a0 a1 a2):=by
 intro a0 a1 a2 k;unfold Y63.f
 repeat' first|(with_reducible first|apply Y32.mono|apply Y31.mono|apply Y29.mono|exact lR _|exact lN _|refine lI ?_ ?_|refine lB ?_ fun _=>?_)|exact lN _|refine lI ?_ ?_|refine lB ?_ fun _=>?_
set_option maxHeartbeats 60000000 in
set_option maxRecDepth 100000 in
theorem Y63.calls (k:Nat) (bI:Option Addr) (bJ:Nat) (aQ:List Bool) (bK:Option Addr) (bL:Nat) (aT:List (S79)) (bM:Option Addr) (bN:Nat) (aV:List (S90)) (r1:List Bool) (r2:List (S60)) (r3:List (S86)) (w:World) (hr0_0:Kd.C Kd.bool w bI aQ.length aQ) (hc0_0:aQ.length≤bJ) (hr0_1:Kd.C k79 w bK aT.length aT) (hc0_1:aT.length≤bL) (hr0_2:Kd.C k90 w bM aV.length aV) (hc0_2:aV.length≤bN) (h:Y63.f k aQ aT aV=some (r1,r2,r3)) :
  Calls Try.prog 7 #[.agg #[.slice bI aQ.length bJ,.slice bK aT.length bL,.slice bM aV.length bN]] w fun e w'=>∃ cE cG cH:Value,e=.returned (.agg #[cE,cG,cH])∧Kd.R Kd.bool 4 w' w.heap.size (fun _=>True) cE r1∧Kd.S k60 60 w' w.heap.size (fun _=>True) cG r2∧Kd.R k86 86 w' w.heap.size (fun _=>True) cH r3∧Below w.heap.size w w':=by
 have dI:=Try.underlying26;have dJ:=Try.underlying35;have bX:=aM hr0_0;have bY:=aM hc0_0;clear hr0_0 hc0_0;have bZ:=aM hr0_1;have cA:=aM hc0_1;clear hr0_1 hc0_1;have cC:=aM hr0_2;have cD:=aM hc0_2;clear hr0_2 hc0_2;have HB:=aM (Below.refl w.heap.size w);have H:((Y32.f k aQ).bind fun aI=>((Y29.f k aT).bind fun aK=>((Y31.f k aV).bind fun aN=>(some (aI,aK,aN)))))=some (r1,r2,r3):=h
 clear h;obtain ⟨aI,cK,H⟩:=hB H;have A2:=aM cK;clear cK;obtain ⟨aK,cL,H⟩:=hB H;have A3:=aM cL;clear cL;obtain ⟨aN,cN,H⟩:=hB H;have A4:=aM cN;clear cN;simp only [Option.some.injEq,Prod.mk.injEq] at H;obtain ⟨rfl,rfl,rfl⟩:=H;go_enter Try.func7,Try.ntmps7
 go_wp2_with (first|((with_reducible refine gD (N:=1) rfl ?_);refine box_event ?hg (N:=1) ?hd (cs:=#[.slice bI aQ.length bJ,.slice bK aT.length bL,.slice bM aV.length bN]) (t:=26) ?hr ?_;(case hd=>rfl);(case hg=>rfl);(case hr=>first|(go_simp;done)|(go_simp;rfl)|(obtain ⟨A_,c_,e_⟩:=Kd.R_slice aE.out;subst e_;(first|(go_simp;done)|(go_simp;rfl)))|(obtain ⟨A_,c_,e_⟩:=Kd.S_slice aE.out;subst e_;(first|(go_simp;done)|(go_simp;rfl)))|(obtain ⟨A_,c_,e_⟩:=Kd.R_slice aG.out;subst e_;(first|(go_simp;done)|(go_simp;rfl)))|(obtain ⟨A_,c_,e_⟩:=Kd.S_slice aG.out;subst e_;(first|(go_simp;done)|(go_simp;rfl))));intro cR hg w5 hbox hb;have aA:=aM (hbox);have cS:=gF hg HB;have cT:=gF hg HB;replace HB:=rS HB hb;clear hb hbox hg)|((with_reducible refine gD (N:=2) rfl ?_);refine box_event ?hg (N:=2) ?hd (cs:=#[.slice none 0 0,.slice none 0 0,.slice none 0 0]) (t:=35) ?hr ?_;(case hd=>rfl);(case hg=>rfl);(case hr=>first|(go_simp;done)|(go_simp;rfl)|(obtain ⟨A_,c_,e_⟩:=Kd.R_slice aE.out;subst e_;(first|(go_simp;done)|(go_simp;rfl)))|(obtain ⟨A_,c_,e_⟩:=Kd.S_slice aE.out;subst e_;(first|(go_simp;done)|(go_simp;rfl)))|(obtain ⟨A_,c_,e_⟩:=Kd.R_slice aG.out;subst e_;(first|(go_simp;done)|(go_simp;rfl)))|(obtain ⟨A_,c_,e_⟩:=Kd.S_slice aG.out;subst e_;(first|(go_simp;done)|(go_simp;rfl))));intro aH hg w6 hbox hb;have aC:=aM (hbox);have cU:=gF hg HB;have cV:=gF hg HB;have bO:=nM hg aA;have bP:=nH hg aA;replace aA:=rB aA hb;replace HB:=rS HB hb;clear hb hbox hg)|((with_reducible refine gD (N:=3) rfl ?_);refine box_event ?hg (N:=3) ?hd (cs:=#[.slice none 0 0,.slice none 0 0,.slice none 0 0]) (t:=35) ?hr ?_;(case hd=>rfl);(case hg=>rfl);(case hr=>first|(go_simp;done)|(go_simp;rfl)|(obtain ⟨A_,c_,e_⟩:=Kd.R_slice aE.out;subst e_;(first|(go_simp;done)|(go_simp;rfl)))|(obtain ⟨A_,c_,e_⟩:=Kd.S_slice aE.out;subst e_;(first|(go_simp;done)|(go_simp;rfl)))|(obtain ⟨A_,c_,e_⟩:=Kd.R_slice aG.out;subst e_;(first|(go_simp;done)|(go_simp;rfl)))|(obtain ⟨A_,c_,e_⟩:=Kd.S_slice aG.out;subst e_;(first|(go_simp;done)|(go_simp;rfl))));intro aJ hg w7 hbox hb;have aD:=aM (hbox);have cW:=gF hg HB;have cX:=gF hg HB;have bQ:=nM hg aA;have bT:=nH hg aA;have bU:=nM hg aC;have bV:=nH hg aC;replace aA:=rB aA hb;replace aC:=rB aC hb;replace HB:=rS HB hb;clear hb hbox hg;have dK:=bO.out;have dL:=bP.out;have dM:=bQ.out;have dN:=bT.out;have cY:=cA3 aA.out)|((with_reducible refine gC (f:=29) rfl ?_);refine gL (some 6) Try.func29 #[.slice bI aQ.length bJ] ?_;(with_reducible refine (Y32.calls k _ _ aQ aI _ ?side1 ?side2 A2.out).mono ?_);(case side1=>exact cM (cB bX.out HB.out));(case side2=>exact bY.out);rintro e dR ⟨dO,rfl,ho0,hb⟩;refine ⟨_,rfl,?_⟩;have aE:=aM (Kd.R_lower ho0 (below_size (bl HB.out)));replace aA:=rB aA hb;replace aC:=rB aC hb;replace aD:=rB aD hb;replace HB:=rS HB hb;(repeat first|clear hb|clear ho0);obtain ⟨aW,aX,cO⟩:=Kd.R_slice aE.out;subst cO;have dA:=bV.out;have dB:=bU.out;have dC:=cA3 aD.out;have dD:=cA3 aA.out)|((with_reducible refine gC (f:=30) rfl ?_);refine gL (some 10) Try.func30 #[.slice bK aT.length bL] ?_;(with_reducible refine (Y29.calls k _ _ aT aK _ ?side1 ?side2 A3.out).mono ?_);(case side1=>exact cB bZ.out (bl HB.out));(case side2=>exact cA.out);rintro e dS ⟨dP,rfl,ho0,hb⟩;refine ⟨_,rfl,?_⟩;have aG:=aM (Kd.S_lower ho0 (below_size (bl HB.out)));replace aE:=aM (kB (kr (Kd.R_mono (kF (p:=⟨aJ,0,none⟩) (Kd.R_types aE.out aD.out (by decide)) (fun _ hk=>hk.2) (.slice aW aI.length aX)) (fun _ h_=>h_.1))) hb);replace aA:=aM (bB (fm aA.out) hb);replace aC:=aM (bB (fm aC.out) hb);replace aD:=aM (bB (g:=aJ) (o:=.cells #[.slice aW aI.length aX,.slice none 0 0,.slice none 0 0] 35 (0,0)) (by (with_reducible repeat (first|refine blk_drewN ?_ _|refine blk_drew ?_|refine blk_alloc ?_ _));refine blk_put (cs:=#[.slice none 0 0,.slice none 0 0,.slice none 0 0]) ?_ 0 _ rfl;(with_reducible repeat (first|refine blk_drewN ?_ _|refine blk_drew ?_|refine blk_alloc ?_ _));exact aD.out) hb);replace HB:=rS HB hb;(repeat first|clear hb|clear ho0);obtain ⟨bA,bD,cP⟩:=Kd.S_slice aG.out;subst cP;have dE:=cA3 aD.out;have dF:=cA3 aA.out)|((with_reducible refine gC (f:=31) rfl ?_);refine gL (some 14) Try.func31 #[.slice bM aV.length bN] ?_;(with_reducible refine (Y31.calls k _ _ aV aN _ ?side1 ?side2 A4.out).mono ?_);(case side1=>exact cB cC.out (bl HB.out));(case side2=>exact cD.out);rintro e dU ⟨dQ,rfl,ho0,hb⟩;refine ⟨_,rfl,?_⟩;have bW:=aM (Kd.R_lower ho0 (below_size (bl HB.out)));replace aE:=aM (kB (kr (Kd.R_mono (kF (p:=⟨aJ,1,none⟩) (Kd.R_types aE.out aD.out (by decide)) (fun _ hk=>hk.2) (.slice bA aK.length bD)) (fun _ h_=>h_.1))) hb);replace aG:=aM (Kd.S_below (ks (Kd.S_mono (Kd.S_far (p:=⟨aJ,1,none⟩) (Kd.S_types aG.out aD.out (by decide)) (fun _ hk=>hk.2) (.slice bA aK.length bD)) (fun _ h_=>h_.1))) hb);replace aA:=aM (bB (fm aA.out) hb);replace aC:=aM (bB (fm aC.out) hb);replace aD:=aM (bB (g:=aJ) (o:=.cells #[.slice aW aI.length aX,.slice bA aK.length bD,.slice none 0 0] 35 (0,0)) (by (with_reducible repeat (first|refine blk_drewN ?_ _|refine blk_drew ?_|refine blk_alloc ?_ _));refine blk_put (cs:=#[.slice aW aI.length aX,.slice none 0 0,.slice none 0 0]) ?_ 1 _ rfl;(with_reducible repeat (first|refine blk_drewN ?_ _|refine blk_drew ?_|refine blk_alloc ?_ _));exact aD.out) hb);replace HB:=rS HB hb;(repeat first|clear hb|clear ho0);obtain ⟨bG,bH,cQ⟩:=Kd.R_slice bW.out;subst cQ;have dG:=cA3 aD.out;have dH:=cA3 aC.out))
 refine bodyPost_ret (results_cell_row rfl _ _ aH 35 #[.slice aW aI.length aX,.slice bA aK.length bD,.slice bG aN.length bH] (0,0) _ rfl (bm aC.out) Try.underlying35 rfl (by kernel_rfl)) rfl ?_
 exact ⟨_,_,_,xW,by (with_reducible repeat (first|apply Kd.R_alloc|apply Kd.R_drewN|apply Kd.R_drew));exact Kd.R_mono (kF (p:=⟨aH,2,none⟩) (kF (p:=⟨aH,1,none⟩) (kF (p:=⟨aH,0,none⟩) (kF (p:=⟨aJ,2,none⟩) (Kd.R_types (Kd.R_types aE.out aD.out (by decide)) aC.out (by decide)) (fun _ hk=>hk.1.2) (.slice bG aN.length bH)) (fun _ hk=>hk.2) (.slice aW aI.length aX)) (fun _ hk=>hk.2) (.slice bA aK.length bD)) (fun _ hk=>hk.2) (.slice bG aN.length bH)) (fun _ hk=>trivial),ks (Kd.S_mono (Kd.S_far (p:=⟨aH,2,none⟩) (Kd.S_far (p:=⟨aH,1,none⟩) (Kd.S_far (p:=⟨aH,0,none⟩) (Kd.S_far (p:=⟨aJ,2,none⟩) (Kd.S_types (Kd.S_types aG.out aD.out (by decide)) aC.out (by decide)) (fun _ hk=>hk.1.2) (.slice bG aN.length bH)) (fun _ hk=>hk.2) (.slice aW aI.length aX)) (fun _ hk=>hk.2) (.slice bA aK.length bD)) (fun _ hk=>hk.2) (.slice bG aN.length bH)) (fun _ hk=>trivial)),by (with_reducible repeat (first|apply Kd.R_alloc|apply Kd.R_drewN|apply Kd.R_drew));exact Kd.R_mono (kF (p:=⟨aH,2,none⟩) (kF (p:=⟨aH,1,none⟩) (kF (p:=⟨aH,0,none⟩) (kF (p:=⟨aJ,2,none⟩) (Kd.R_types (Kd.R_types bW.out aD.out (by decide)) aC.out (by decide)) (fun _ hk=>hk.1.2) (.slice bG aN.length bH)) (fun _ hk=>hk.2) (.slice aW aI.length aX)) (fun _ hk=>hk.2) (.slice bA aK.length bD)) (fun _ hk=>hk.2) (.slice bG aN.length bH)) (fun _ hk=>trivial),bl HB.out⟩

def Y34.l0:Nat→List Int→List Int→Int→Option (List Int)
 | 0,_,_,_=>none
 | k+1,x0,x3,x4=>if x4<(x0.length:Int) then (if 0≤x4 then (if x4<(x3.length:Int) then (Y34.l0 k x0 (x3.set (x4:Int).toNat (rd x0 x4)) (wrap64 (x4+1))) else (none)) else (none)) else (some x3)
def Y34.f (k:Nat) (l0:List Int):Option (List Int):=if 0≤(l0.length:Int) then (if ((l0.length:Int):Int).toNat≤281474976710656 then (Y34.l0 k l0 (List.replicate ((l0.length:Int):Int).toNat 0) 0) else (none)) else (none)
theorem Y34.mono_l:∀ k,(∀ y0 y1 y2,LeO (Y34.l0 k y0 y1 y2) (Y34.l0 (k+1) y0 y1 y2))
 | 0=>fun _ _ _ r h=>by simp [Y34.l0] at h
 | k+1=>by
  have ih0:=Y34.mono_l k
  ·intro y0 y1 y2
   unfold Y34.l0
   repeat' first|(with_reducible first|apply ih0|exact lR _|exact lN _|refine lI ?_ ?_|refine lB ?_ fun _=>?_)|exact lN _|refine lI ?_ ?_|refine lB ?_ fun _=>?_
theorem Y34.mono:∀ a0 k,LeO (Y34.f k a0) (Y34.f (k+1) a0):=by
 intro a0 k;have ih0:=Y34.mono_l k;unfold Y34.f
 repeat' first|(with_reducible first|apply ih0|exact lR _|exact lN _|refine lI ?_ ?_|refine lB ?_ fun _=>?_)|exact lN _|refine lI ?_ ?_|refine lB ?_ fun _=>?_
set_option maxHeartbeats 60000000 in
set_option maxRecDepth 100000 in
theorem Y34.calls (k:Nat) (A0:Option Addr) (c0:Nat) (l0:List Int) (r:List Int) (w:World) (hr0:Kd.C (Kd.int .u8) w A0 l0.length l0) (hc0:l0.length≤c0) (h:Y34.f k l0=some r) :
  Calls Try.prog 32 #[.slice A0 l0.length c0] w fun e w'=>∃ bD:Value,e=.returned (bD)∧Kd.R (Kd.int .u8) 5 w' w.heap.size (fun _=>True) bD r∧Below w.heap.size w w':=by
 have bT:=aM hr0;have cD:=aM hc0;clear hr0 hc0;have HB:=aM (Below.refl w.heap.size w);have H:(if 0≤(l0.length:Int) then (if ((l0.length:Int):Int).toNat≤281474976710656 then (Y34.l0 k l0 (List.replicate ((l0.length:Int):Int).toNat 0) 0) else (none)) else (none))=some r:=h;clear h
 by_cases c2:0≤(l0.length:Int)
 case neg =>
  rw [if_neg c2] at H
  exact absurd H (by simp)
 rw [if_pos c2] at H
 have bK:=eq_true c2;have bL:decide (0≤(l0.length:Int))=true:=decide_eq_true c2;clear c2
 by_cases c3:((l0.length:Int):Int).toNat≤281474976710656
 case neg =>
  rw [if_neg c3] at H
  exact absurd H (by simp)
 rw [if_pos c3] at H
 have bM:=eq_true c3;have bN:decide (((l0.length:Int):Int).toNat≤281474976710656)=true:=decide_eq_true c3;clear c3;obtain ⟨aT,aD⟩:∃ y_:List Int,y_=(List.replicate ((l0.length:Int):Int).toNat 0):=⟨_,rfl⟩;replace H:(Y34.l0 k l0 aT 0)=some r:=by first|(rw [aD];with_reducible exact H)|(have H2_:=(Option.bind_some _ _).symm.trans H;rw [aD];with_reducible exact H2_)|(have H2_:=(Option.bind_some _ _).symm.trans H;with_reducible exact H2_)|with_reducible exact H|(rw [aD];exact H)|exact H
 have aQ:=aM aD;clear aD;have H':=aM H;clear H;go_enter Try.func32,Try.ntmps32
 go_wp2_with (first|((with_reducible refine gD (N:=7) rfl ?_);refine Kd.R_make (Kd.int .u8) _ 5 rfl (N:=7) rfl 27 _ _ rfl (l0.length:Int) rfl rfl Try.underlying27 (.int .u8 0) 1 info5 rfl (by decide) (by omega) 0 (ok:=fun _=>True) (okp:=fun _=>True) rfl (fun _ hk=>hk) trivial (dT) (Nat.le_trans (Nat.mul_le_mul_right _ (dT:(l0.length:Int).toNat≤281474976710656)) (by omega)) (Below.refl _ _) (Nat.le_refl _) ?_;intro bO w4 ho5 hb hg_ hnew_;clear hg_ hnew_;(first|rw [← aQ.out] at ho5|(simp only [Int.reduceToNat] at ho5;rw [← aQ.out] at ho5));have aX:=aM (Kd.R_lower ho5 (below_size (bl HB.out)));replace HB:=rS HB hb;clear hb ho5))
 go_loopg [4] k (fun kq v4 w'=>∃ (aG:List Int) (aA:Int),v4=.int .i64 aA∧Aside0 (Y34.l0 kq l0 aG aA=some r)∧Aside0 (kq≤k)∧Aside0 (Kd.R (Kd.int .u8) 5 w' w.heap.size (fun _=>True) bO aG)∧Aside0 (Below w.heap.size w w'))
 case atStart=>exact ⟨(aT),(0),xE,H',⟨Nat.le_refl _⟩,⟨kr aX.out⟩,⟨bl HB.out⟩⟩
 case round =>
  clear H'
  repeat first|clear c2|clear bK|clear bL|clear p2|clear c3|clear bM|clear bN
  obtain ⟨aG,aA,rfl,HA,bG,aC,HB⟩:=hrel;cases gk with
  | zero=>exact absurd HA.out (by simp [Y34.l0])
  | succ k1 =>
   have H:=HA.out;clear HA;simp only [Y34.l0] at H
   by_cases c6:aA<(l0.length:Int)
   case neg =>
    rw [if_neg c6] at H
    have bP:=decide_eq_false c6;clear c6;obtain rfl:=Option.some.inj H;go_wp2
    go_ret
    exact ⟨_,xW,by (with_reducible repeat (first|apply Kd.R_alloc|apply Kd.R_drewN|apply Kd.R_drew));exact aC.out,bl HB.out⟩
   rw [if_pos c6] at H
   have bP:=decide_eq_true c6;clear c6;obtain ⟨cA,H⟩:=gI H;obtain ⟨cC,H⟩:=gI H;obtain ⟨aI,aE⟩:∃ y_:List Int,y_=(aG.set (aA:Int).toNat (rd l0 aA)):=⟨_,rfl⟩;replace H:(Y34.l0 k1 l0 aI (wS aA))=some r:=by first|(rw [aE];with_reducible exact H)|(have H2_:=(Option.bind_some _ _).symm.trans H;rw [aE];with_reducible exact H2_)|(have H2_:=(Option.bind_some _ _).symm.trans H;with_reducible exact H2_)|with_reducible exact H|(rw [aE];exact H)|exact H
   have bA:=aM aE;clear aE;have H':=aM H;clear H;have aJ:0≤(aA:Int):=dT;have aK:aA<(l0.length:Int):=dT;obtain ⟨bX,bQ,aH⟩:=Kd.at_int bT.out aA aJ aK;cases bQ
   replace aH:=xB HB aH;replace aJ:=eq_true aJ;replace aK:=eq_true aK;have p9:0≤(aA:Int):=dT;have q9:(aA:Int)<((aG.length:Int):Int):=dT;obtain ⟨aV,bU,bH,bI,bV,cE,bJ⟩:=Kd.R_form aC.out (by omega)
   (first|cases bH|(injection bH with ea_ en_ ec_;(first|subst ea_|(injection ea_ with ea_;subst ea_));subst ec_;clear en_))
   have bW:=aM bI;have cG:=aM bJ;clear bI bV bJ;obtain ⟨bY,bZ⟩:=Kd.R_celln 0 aC.out (aA:Int) p9 q9;replace p9:=eq_true p9;replace q9:=eq_true q9;have aN:=Kd.R_putg aC.out (aA:Int) (rd l0 aA);go_wp2_with (first|((with_reducible refine gate_store (t:=5) (p:=20) rfl ?_);refine store_event (t:=5) (p:=20) (v:=?vo_w11) (w1:=(wr.setCell ⟨aV,(aA:Int).toNat,none⟩ (.int .u8 (rd l0 aA)))) ?hg ?ho ?hn ?hr ?_;(case ho=>rfl);(case hg=>rfl);(case hn=>rfl);(case hr=>first|(go_simp;done)|(go_simp;rfl)|(obtain ⟨A_,c_,e_⟩:=Kd.R_slice aC.out;subst e_;(first|(go_simp;done)|(go_simp;rfl)))|(obtain ⟨A_,c_,e_⟩:=Kd.S_slice aC.out;subst e_;(first|(go_simp;done)|(go_simp;rfl))));intro aW hw;have hg:wr.grownBy aW (some aV):=(by rw [hw];exact aN.2);have hp_:Kd.R (Kd.int .u8) 5 aW w.heap.size (fun _=>True) (.slice (some ⟨aV,0,none⟩) aG.length bU) aI:=(by rw [hw,bA.out];exact aN.1);clear aN;replace aC:=aM (hp_);replace HB:=aM ((by rw [hw];exact below_set (HB.out) bW.out:Below w.heap.size w aW));clear hg hw hp_))
   go_roundg k1
   case measure=>have:=bG.out;omega
   case rel=>exact ⟨(aI),(wS aA),xE,H',⟨by have:=bG.out;omega⟩,⟨kr aC.out⟩,⟨bl HB.out⟩⟩

def Y66.f (k:Nat) (aA aC aD:Int) (aE:List Int):Option (Int × Int × Int × List Int):=(Y34.f k aE).bind fun aG=>(some (aA,aC,aD,aG))
theorem Y66.mono:∀ a0 a1 a2 a3 k,LeO (Y66.f k a0 a1 a2 a3) (Y66.f (k+1) a0 a1 a2 a3):=by
 intro a0 a1 a2 a3 k;unfold Y66.f
 repeat' first|(with_reducible first|apply Y34.mono|exact lR _|exact lN _|refine lI ?_ ?_|refine lB ?_ fun _=>?_)|exact lN _|refine lI ?_ ?_|refine lB ?_ fun _=>?_
set_option maxHeartbeats 60000000 in
set_option maxRecDepth 100000 in
theorem Y66.calls (k:Nat) (aD aG aH:Int) (aN:Option Addr) (aQ:Nat) (aE:List Int) (r1 r2 r3:Int) (r4:List Int) (w:World) (hr0_3:Kd.C (Kd.int .u8) w aN aE.length aE) (hc0_3:aE.length≤aQ) (h:Y66.f k aD aG aH aE=some (r1,r2,r3,r4)) :
  Calls Try.prog 8 #[.agg #[aD,aG,aH,.slice aN aE.length aQ]] w fun e w'=>∃ bM:Value,e=.returned (.agg #[r1,r2,r3,bM])∧Kd.R (Kd.int .u8) 5 w' w.heap.size (fun _=>True) bM r4∧Below w.heap.size w w':=by
 have cC:=Try.underlying29;have cD:=Try.underlying40;have bK:=aM hr0_3;have bL:=aM hc0_3;clear hr0_3 hc0_3;have HB:=aM (Below.refl w.heap.size w);have H:((Y34.f k aE).bind fun aK=>(some (aD,aG,aH,aK)))=some (r1,r2,r3,r4):=h
 clear h;obtain ⟨aK,bN,H⟩:=hB H;have A2:=aM bN;clear bN;simp only [Option.some.injEq,Prod.mk.injEq] at H;obtain ⟨rfl,rfl,rfl,rfl⟩:=H;go_enter Try.func8,Try.ntmps8
 go_wp2_with (first|((with_reducible refine gD (N:=1) rfl ?_);refine bE (N:=1) (cs:=#[aD,aG,aH,.slice aN aE.length aQ]) (t:=29) ?_;intro bP hg w3 hbox hb;have aA:=aM (hbox);have bQ:=gF hg HB;have bT:=gF hg HB;replace HB:=rS HB hb;clear hb hbox hg)|((with_reducible refine gD (N:=2) rfl ?_);refine bE (N:=2) (cs:=#[.int .i64 0,.int .i64 0,.int .i64 0,.slice none 0 0]) (t:=40) ?_;intro aI hg w4 hbox hb;have aC:=aM (hbox);have bU:=gF hg HB;have bV:=gF hg HB;have aT:=nM hg aA;have aV:=nH hg aA;replace aA:=rB aA hb;replace HB:=rS HB hb;clear hb hbox hg)|((with_reducible refine gD (N:=3) rfl ?_);refine bE (N:=3) (cs:=#[.int .i64 0,.int .i64 0,.int .i64 0,.slice none 0 0]) (t:=40) ?_;intro bI hg w5 hbox hb;have aJ:=aM (hbox);have bW:=gF hg HB;have bX:=gF hg HB;have aW:=nM hg aA;have aX:=nH hg aA;have bA:=nM hg aC;have bD:=nH hg aC;replace aA:=rB aA hb;replace aC:=rB aC hb;replace HB:=rS HB hb;clear hb hbox hg;have cE:=aT.out;have cG:=aV.out;have cH:=aW.out;have cK:=aX.out;have cL:=cA4 aA.out;have cN:=bD.out;have cO:=bA.out;have bY:=cA4 aJ.out)|((with_reducible refine gC (f:=32) rfl ?_);refine gL (some 15) Try.func32 #[.slice aN aE.length aQ] ?_;(with_reducible refine (Y34.calls k _ _ aE aK _ ?side1 ?side2 A2.out).mono ?_);(case side1=>exact cB bK.out (bl HB.out));(case side2=>exact bL.out);rintro e cQ ⟨cP,rfl,ho0,hb⟩;refine ⟨_,rfl,?_⟩;have bJ:=aM (Kd.R_lower ho0 (below_size (bl HB.out)));replace aA:=aM (bB (fm aA.out) hb);replace aC:=aM (bB (fm aC.out) hb);replace aJ:=aM (bB (g:=bI) (o:=.cells #[aD,aG,aH,.slice none 0 0] 40 (0,0)) (by (with_reducible repeat (first|refine blk_drewN ?_ _|refine blk_drew ?_|refine blk_alloc ?_ _));refine blk_put (cs:=#[aD,aG,.int .i64 0,.slice none 0 0]) ?_ 2 _ rfl;(with_reducible repeat (first|refine blk_drewN ?_ _|refine blk_drew ?_|refine blk_alloc ?_ _));refine blk_put (cs:=#[aD,.int .i64 0,.int .i64 0,.slice none 0 0]) ?_ 1 _ rfl;(with_reducible repeat (first|refine blk_drewN ?_ _|refine blk_drew ?_|refine blk_alloc ?_ _));refine blk_put (cs:=#[.int .i64 0,.int .i64 0,.int .i64 0,.slice none 0 0]) ?_ 0 _ rfl;(with_reducible repeat (first|refine blk_drewN ?_ _|refine blk_drew ?_|refine blk_alloc ?_ _));exact aJ.out) hb);replace HB:=rS HB hb;(repeat first|clear hb|clear ho0);obtain ⟨bG,bH,bO⟩:=Kd.R_slice bJ.out;subst bO;have bZ:=cA4 aJ.out;have cA:=cA4 aC.out))
 refine bodyPost_ret (results_cell_row rfl _ _ aI 40 #[aD,aG,aH,.slice bG aK.length bH] (0,0) _ rfl (bm aC.out) Try.underlying40 rfl (by kernel_rfl)) rfl ?_
 exact ⟨_,xW,by (with_reducible repeat (first|apply Kd.R_alloc|apply Kd.R_drewN|apply Kd.R_drew));exact Kd.R_mono (kF (p:=⟨aI,3,none⟩) (kF (p:=⟨aI,2,none⟩) (kF (p:=⟨aI,1,none⟩) (kF (p:=⟨aI,0,none⟩) (kF (p:=⟨bI,3,none⟩) (Kd.R_types (Kd.R_types bJ.out aJ.out (by decide)) aC.out (by decide)) (fun _ hk=>hk.1.2) (.slice bG aK.length bH)) (fun _ hk=>hk.2) (.int .i64 aD)) (fun _ hk=>hk.2) (.int .i64 aG)) (fun _ hk=>hk.2) (.int .i64 aH)) (fun _ hk=>hk.2) (.slice bG aK.length bH)) (fun _ hk=>trivial),bl HB.out⟩

def Y70.f (l0:List Bool):Option (List Bool):=(some (([]:List Bool):List Bool)).bind fun aA=>(if aA.length+l0.length<140737488355328 then (some (aA++l0)) else (none))
set_option maxHeartbeats 60000000 in
set_option maxRecDepth 100000 in
theorem Y70.calls (A0:Option Addr) (c0:Nat) (l0:List Bool) (r:List Bool) (w:World) (hr0:Kd.C Kd.bool w A0 l0.length l0) (hc0:l0.length≤c0) (h:Y70.f l0=some r) :
  Calls Try.prog 62 #[.slice A0 l0.length c0] w fun e w'=>∃ aJ:Value,e=.returned (aJ)∧Kd.R Kd.bool 4 w' w.heap.size (fun _=>True) aJ r∧Below w.heap.size w w':=by
 have qn:∀ (w:World) (a:Option Addr) (n c n' c':Nat),(binOp .eql 22 (.slice a n c) (.slice none n' c')).run Try.prog w=.ok (.bool a.isNone) w:=fun w a n c n' c'=>Lib.run_eql_slice_nil w _ _ a n c n' c' Try.underlying22
 by_cases hnil:A0=none
 ·have hl:l0=[]:=by
   have hc:=hr0.2.2;rw [hnil] at hc
   cases l0 with
   | nil=>rfl
   | cons x t=>obtain ⟨_,hx,_⟩:=hc (by simp);cases hx
  subst hnil;subst hl;have hr:r=[]:=by simpa [Y70.f] using h.symm
  subst hr;clear hr0 h;go_enter Try.func62,Try.ntmps62
  go_wp2
  go_ret
  exact ⟨_,rfl,Kd.R_nil _ _ _ _ _,Below.refl _ _⟩
 have hsome:A0.isNone=false:=by cases A0 <;> simp at hnil ⊢
 clear hnil;have aQ:=aM hr0;have aV:=aM hc0;clear hr0 hc0;have HB:=aM (Below.refl w.heap.size w);have H:((some (([]:List Bool):List Bool)).bind fun aC=>(if aC.length+l0.length<140737488355328 then (some (aC++l0)) else (none)))=some r:=h
 clear h;obtain ⟨aC,aE,H⟩:=hS H;have aG:=aM aE;clear aE
 by_cases c2:aC.length+l0.length<140737488355328
 case neg =>
  rw [if_neg c2] at H
  exact absurd H (by simp)
 rw [if_pos c2] at H
 have LMc2:=aM c2;clear c2;obtain ⟨aK,aA⟩:∃ y_:List Bool,y_=(aC++l0):=⟨_,rfl⟩;replace H:(some aK)=some r:=by first|(rw [aA];with_reducible exact H)|(have H2_:=(Option.bind_some _ _).symm.trans H;rw [aA];with_reducible exact H2_)|(have H2_:=(Option.bind_some _ _).symm.trans H;with_reducible exact H2_)|with_reducible exact H|(rw [aA];exact H)|exact H
 have aH:=aM aA;clear aA;obtain rfl:=Option.some.inj H;go_enter Try.func62,Try.ntmps62
 go_wp2_with (first|((with_reducible refine gD (N:=5) rfl ?_);refine Kd.R_lit Kd.bool _ 4 ?hg (N:=5) ?hd (xs:=([]:List Bool)) (inner:=[]) (ok:=fun _=>True) (okp:=fun _=>True) ?hr ?hp (fun _ hk=>hk) trivial (Below.refl _ _) (Nat.le_refl _) (by simp) ?_;(case hd=>rfl);(case hg=>rfl);(case hr=>first|(go_simp;done)|(go_simp;rfl)|(obtain ⟨A_,c_,e_⟩:=Kd.R_slice aD.out;subst e_;(first|(go_simp;done)|(go_simp;rfl)))|(obtain ⟨A_,c_,e_⟩:=Kd.S_slice aD.out;subst e_;(first|(go_simp;done)|(go_simp;rfl))));(case hp=>exact (Reps.none _ _));intro aN w3 ho4 hb hg_ hnew_;clear hg_ hnew_;(first|rw [← aG.out] at ho4|(simp only [Int.reduceToNat] at ho4;rw [← aG.out] at ho4));have aD:=aM (Kd.R_lower ho4 (below_size (bl HB.out)));replace HB:=rS HB hb;clear hb ho4)|((with_reducible refine gate_builtin (b:=.append) (xs:=#[.tmp 5,.tmp 6]) rfl ?_);at_builtin;refine Kd.R_append_rows Kd.bool (w0:=w) w.heap.size rfl (.tmp 5) (.tmp 6) 22 4 (.bool false) 1 rfl Try.underlying22 info4 rfl (by decide) (by omega) aN aC l0 _ _ _ (fun _=>True) (fun _=>False) rfl rfl ?aO ?aR (fun _ _ h=>h) (fun _ h=>h.elim) ?aF ?aB ?aS ?aL ?_;(case aR=>repeat (first|exact (cB aQ.out HB.out)|(with_reducible refine Kd.C_alloc ?_ _)|(with_reducible refine Kd.C_drewN ?_ _)|(with_reducible refine Kd.C_drew ?_)));(case aB=>exact (bl HB.out));(case aF=>exact (fun _ _=>trivial));(case aO=>exact (kr aD.out));(case aS=>exact (below_size (bl HB.out)));(case aL=>have:=LMc2.out;omega);intro aT w5 ho hb hg hat;rw [← aH.out] at ho;have aI:=aM (ho);replace HB:=aM (hb);clear aD;clear ho hb hg hat))
 go_ret
 exact ⟨_,xW,by (with_reducible repeat (first|apply Kd.R_alloc|apply Kd.R_drewN|apply Kd.R_drew));exact aI.out,bl HB.out⟩

end Go.Proofs.Ytfljolhhgheheaa.PFnExactPass
