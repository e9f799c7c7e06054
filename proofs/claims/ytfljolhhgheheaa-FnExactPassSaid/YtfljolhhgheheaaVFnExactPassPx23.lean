/- A part of the proof of laws.FnExactPass. No condition beyond what its theorems say. -/
import Derived.Test.YtfljolhhgheheaaVFnExactPassPx1
namespace Go.Proofs.Ytfljolhhgheheaa.PFnExactPass
open Go.RowKit Go.Proofs.YtfljolhhgheheaaW.PrintWords Go.Proofs.YtfljolhhgheheaaW.PrintLast Go.Proofs.YtfljolhhgheheaaW.PrintMore
set_option linter.unusedVariables false
set_option linter.unusedSimpArgs false

def Y18.l0:Nat→List Int→Int→Int→Option (Int × List Int)
 | 0,_,_,_=>none
 | k+1,x0,x1,x5=>if x5<(x0.length:Int) then (if 0≤x5 then (Y18.l0 k (x0.set (x5:Int).toNat ((x1) % 256)) (wrap64 (x1+1)) (wrap64 (x5+1))) else (none)) else (some (x1,x0))
def Y18.f (k:Nat) (l0:List Int) (a1:Int):Option (Int × List Int):=Y18.l0 k l0 a1 0
theorem Y18.mono_l:∀ k,(∀ y0 y1 y2,LeO (Y18.l0 k y0 y1 y2) (Y18.l0 (k+1) y0 y1 y2))
 | 0=>fun _ _ _ r h=>by simp [Y18.l0] at h
 | k+1=>by
  have ih0:=Y18.mono_l k
  ·intro y0 y1 y2
   unfold Y18.l0
   repeat' first|(with_reducible first|apply ih0|exact lR _|exact lN _|refine lI ?_ ?_|refine lB ?_ fun _=>?_)|exact lN _|refine lI ?_ ?_|refine lB ?_ fun _=>?_
theorem Y18.mono:∀ a0 a1 k,LeO (Y18.f k a0 a1) (Y18.f (k+1) a0 a1):=by
 intro a0 a1 k;have ih0:=Y18.mono_l k;unfold Y18.f
 repeat' first|(with_reducible first|apply ih0|exact lR _|exact lN _|refine lI ?_ ?_|refine lB ?_ fun _=>?_)|exact lN _|refine lI ?_ ?_|refine lB ?_ fun _=>?_
set_option maxHeartbeats 60000000 in
set_option maxRecDepth 100000 in
theorem Y18.calls (k:Nat) (P0_:Nat→Prop) (aD:Value) (l0:List Int) (a1 r1:Int) (r2:List Int) (w0 w:World) (hB:Below w0.heap.size w0 w) (ho0:Kd.R (Kd.int .u8) 5 w w0.heap.size P0_ aD l0) (h:Y18.f k l0 a1=some (r1,r2)) :
  Calls Try.prog 48 #[aD,a1] w fun e w'=>e=.returned (.int .i64 r1)∧Kd.R (Kd.int .u8) 5 w' w0.heap.size (fun k_=>(P0_ k_∨w.heap.size≤k_)) aD r2∧Below w0.heap.size w0 w'∧Kept w w' (fun k_=>P0_ k_):=by
 have bA:=aM (show Kd.R (Kd.int .u8) 5 w w0.heap.size (fun k_=>(P0_ k_∨w.heap.size≤k_)) aD l0 from Kd.R_mono ho0 (fun k_ hk=>(.inl hk)))
 have HK:=aM (Kept.refl w (fun k_=>P0_ k_))
 have HW0:=aM hB.size;have HB:=aM hB;clear hB;have H:(Y18.l0 k l0 a1 0)=some (r1,r2):=h;clear h;have H':=aM H;clear H;go_enter Try.func48,Try.ntmps48
 go_wp2
 go_loopg [1,5] k (fun kq v1 v5 w'=>∃ (aG:List Int) (aE:Int) (aA:Int),v1=.int .i64 aE∧v5=.int .i64 aA∧Aside0 (Y18.l0 kq aG aE aA=some (r1,r2))∧Aside0 (kq≤k)∧Aside0 (Kd.R (Kd.int .u8) 5 w' w0.heap.size (fun k_=>(P0_ k_∨w.heap.size≤k_)) aD aG)∧Aside0 (Kept w w' (fun k_=>P0_ k_))∧Aside0 (Below w0.heap.size w0 w'))
 case atStart=>exact ⟨(l0),(a1),(0),xE,xE,H',⟨Nat.le_refl _⟩,⟨kr bA.out⟩,⟨kk HK.out⟩,⟨bl HB.out⟩⟩
 case round =>
  clear H'
  try clear p2
  obtain ⟨aG,aE,aA,rfl,rfl,HA,aQ,aC,HK,HB⟩:=hrel;cases gk with
  | zero=>exact absurd HA.out (by simp [Y18.l0])
  | succ k1 =>
   have H:=HA.out;clear HA;simp only [Y18.l0] at H
   by_cases c3:aA<(aG.length:Int)
   case neg =>
    rw [if_neg c3] at H
    have aX:=decide_eq_false c3;clear c3;simp only [Option.some.injEq,Prod.mk.injEq] at H;obtain ⟨rfl,rfl⟩:=H;obtain ⟨bN,bO,bD⟩:=Kd.R_slice aC.out;subst bD;go_wp2
    go_ret
    exact ⟨xW,by (with_reducible repeat (first|apply Kd.R_alloc|apply Kd.R_drewN|apply Kd.R_drew));exact aC.out,bl HB.out,kk HK.out⟩
   rw [if_pos c3] at H
   have aX:=decide_eq_true c3;clear c3;obtain ⟨bM,H⟩:=gI H;obtain ⟨aJ,aH⟩:∃ y_:List Int,y_=(aG.set (aA:Int).toNat ((aE) % 256)):=⟨_,rfl⟩;replace H:(Y18.l0 k1 aJ (wS aE) (wS aA))=some (r1,r2):=by first|(rw [aH];with_reducible exact H)|(have H2_:=(Option.bind_some _ _).symm.trans H;rw [aH];with_reducible exact H2_)|(have H2_:=(Option.bind_some _ _).symm.trans H;with_reducible exact H2_)|with_reducible exact H|(rw [aH];exact H)|exact H
   have aN:=aM aH;clear aH;have H':=aM H;clear H;obtain ⟨bP,bG,bH⟩:=Kd.R_slice aC.out;subst bH;have p5:0≤(aA:Int):=dT;have q5:(aA:Int)<((aG.length:Int):Int):=dT;obtain ⟨aI,bQ,aT,aV,bI,bT,aW⟩:=Kd.R_form aC.out (by omega)
   (first|cases aT|(injection aT with ea_ en_ ec_;(first|subst ea_|(injection ea_ with ea_;subst ea_));subst ec_;clear en_))
   have bJ:=aM aV;have bU:=aM aW;clear aV bI aW;have HMgo5:=aM (show (P0_ aI∨w.heap.size≤aI) from (aC.out.1 _ rfl));obtain ⟨bK,bL⟩:=Kd.R_celln 0 aC.out (aA:Int) p5 q5;replace p5:=eq_true p5;replace q5:=eq_true q5;have aK:=Kd.R_putg aC.out (aA:Int) ((aE) % 256);go_wp2_with (first|((with_reducible refine gate_store (t:=5) (p:=16) rfl ?_);refine store_event (t:=5) (p:=16) (v:=?vo_w8) (w1:=(wr.setCell ⟨aI,(aA:Int).toNat,none⟩ (.int .u8 ((aE) % 256)))) ?hg ?ho ?hn ?hr ?_;(case ho=>rfl);(case hg=>rfl);(case hn=>rfl);(case hr=>first|(go_simp;done)|(go_simp;rfl)|(obtain ⟨A_,c_,e_⟩:=Kd.R_slice aC.out;subst e_;(first|(go_simp;done)|(go_simp;rfl)))|(obtain ⟨A_,c_,e_⟩:=Kd.S_slice aC.out;subst e_;(first|(go_simp;done)|(go_simp;rfl))));intro w8 hw;have hg:wr.grownBy w8 (some aI):=(by rw [hw];exact aK.2);have hp_:Kd.R (Kd.int .u8) 5 w8 w0.heap.size (fun k_=>(P0_ k_∨w.heap.size≤k_)) (.slice (some ⟨aI,0,none⟩) aG.length bG) aJ:=(by rw [hw,aN.out];exact aK.1);clear aK;replace HB:=aM ((by rw [hw];exact below_set (HB.out) bJ.out:Below w0.heap.size w0 w8));replace HK:=aM (Kept.of_grown (S:=(fun k_=>P0_ k_)) hg (kk HK.out) (fun k_ e_=>(aC.out.1 k_ e_)));replace aC:=aM (hp_);clear hg hw hp_))
   go_roundg k1
   case measure=>have:=aQ.out;omega
   case rel=>exact ⟨(aJ),(wS aE),(wS aA),xE,xE,H',⟨by have:=aQ.out;omega⟩,⟨kr aC.out⟩,⟨kk HK.out⟩,⟨bl HB.out⟩⟩

def Y64.f (k:Nat) (aD aE aG:Int) (aC:List Int) (a1:Int):Option (Int × List Int):=(Y18.f k aC a1).bind fun aA=>(some (aA.1,aA.2))
theorem Y64.mono:∀ a0 a1 a2 a3 a4 k,LeO (Y64.f k a0 a1 a2 a3 a4) (Y64.f (k+1) a0 a1 a2 a3 a4):=by
 intro a0 a1 a2 a3 a4 k;unfold Y64.f
 repeat' first|(with_reducible first|apply Y18.mono|exact lR _|exact lN _|refine lI ?_ ?_|refine lB ?_ fun _=>?_)|exact lN _|refine lI ?_ ?_|refine lB ?_ fun _=>?_
set_option maxHeartbeats 60000000 in
set_option maxRecDepth 100000 in
theorem Y64.calls (k:Nat) (aG aH aI:Int) (P0_3_:Nat→Prop) (aD:Value) (aC:List Int) (a1 r1:Int) (r2:List Int) (w0 w:World) (hB:Below w0.heap.size w0 w) (ho0_3:Kd.R (Kd.int .u8) 5 w w0.heap.size P0_3_ aD aC) (h:Y64.f k aG aH aI aC a1=some (r1,r2)) :
  Calls Try.prog 14 #[.agg #[aG,aH,aI,aD],a1] w fun e w'=>e=.returned (.int .i64 r1)∧Kd.R (Kd.int .u8) 5 w' w0.heap.size (fun k_=>(P0_3_ k_∨w.heap.size≤k_)) aD r2∧Below w0.heap.size w0 w'∧Kept w w' (fun k_=>P0_3_ k_):=by
 have bH:=Try.underlying40;have aA:=aM (show Kd.R (Kd.int .u8) 5 w w0.heap.size (fun k_=>(P0_3_ k_∨w.heap.size≤k_)) aD aC from Kd.R_mono ho0_3 (fun k_ hk=>(.inl hk)))
 have HK:=aM (Kept.refl w (fun k_=>P0_3_ k_))
 have HW0:=aM hB.size;have HB:=aM hB;clear hB;have H:((Y18.f k aC a1).bind fun aJ=>(some (aJ.1,aJ.2)))=some (r1,r2):=h
 clear h;obtain ⟨⟨aV,aW⟩,aQ,H⟩:=hB H
 try dsimp only at H
 have A3:=aM aQ;clear aQ;simp only [Option.some.injEq,Prod.mk.injEq] at H;obtain ⟨rfl,rfl⟩:=H;obtain ⟨aK,aN,aX⟩:=Kd.R_slice aA.out;subst aX;go_enter Try.func14,Try.ntmps14
 go_wp2_with (first|((with_reducible refine gD (N:=2) rfl ?_);refine bR aA (N:=2) (cs:=#[aG,aH,aI,.slice aK aC.length aN]) (t:=40) ?_;intro bA hg w5 hbox hb;have aE:=aM (hbox);have bD:=gE hg (kk HK.out).1;have bG:=gF hg HB;replace aA:=rK aA hb;replace HK:=aM (Kept.below (S:=(fun k_=>P0_3_ k_)) (kk HK.out) hb);replace HB:=rS HB hb;clear hb hbox hg;have bI:=cA4 aE.out)|((with_reducible refine gC (f:=48) rfl ?_);refine gL (some 8) Try.func48 #[.slice aK aC.length aN,a1] ?_;(with_reducible refine (Y18.calls k (fun k_=>some k_=(.slice aK aC.length aN:Value).ownBlock) (.slice aK aC.length aN) aC a1 aV aW w0 _ ?side1 ?side2 A3.out).mono ?_);(case side1=>exact bl HB.out);(case side2=>exact Kd.R_tight rfl aA.out);rintro e w7 ⟨rfl,aT,hb,hkp⟩;refine ⟨_,rfl,?_⟩;replace aE:=aM (blk_kept (bk aE.out) hkp (fun hs_=>(fun e_=>(Kd.R_ne aA.out aE.out (by decide)) e_) hs_));replace HK:=aM (Kept.then_ (S:=(fun k_=>P0_3_ k_)) (kk HK.out) hkp (fun k_ hs_=>(fun e_=>(aA.out.1 k_ e_.symm)) hs_));replace aA:=aM (Kd.R_reok rfl aT (fun k_ e_=>aA.out.1 k_ e_));replace HB:=aM (hb);(repeat first|clear hb|clear hkp|clear aT)))
 go_ret
 exact ⟨xW,by (with_reducible repeat (first|apply Kd.R_alloc|apply Kd.R_drewN|apply Kd.R_drew));exact aA.out,bl HB.out,kk HK.out⟩

def Y35.l0:Nat→List Bool→Int→Int→Option (Int)
 | 0,_,_,_=>none
 | k+1,x0,x1,x5=>if x5<(x0.length:Int) then (if 0≤x5 then (if ((rdOf false x0 x5) != ((Int.tmod x1 3) == 0))=true then (some (-1)) else (Y35.l0 k x0 (wrap64 (x1+1)) (wrap64 (x5+1)))) else (none)) else (some x1)
def Y35.f (k:Nat) (l0:List Bool) (a1:Int):Option (Int):=Y35.l0 k l0 a1 0
theorem Y35.mono_l:∀ k,(∀ y0 y1 y2,LeO (Y35.l0 k y0 y1 y2) (Y35.l0 (k+1) y0 y1 y2))
 | 0=>fun _ _ _ r h=>by simp [Y35.l0] at h
 | k+1=>by
  have ih0:=Y35.mono_l k
  ·intro y0 y1 y2
   unfold Y35.l0
   repeat' first|(with_reducible first|apply ih0|exact lR _|exact lN _|refine lI ?_ ?_|refine lB ?_ fun _=>?_)|exact lN _|refine lI ?_ ?_|refine lB ?_ fun _=>?_
theorem Y35.mono:∀ a0 a1 k,LeO (Y35.f k a0 a1) (Y35.f (k+1) a0 a1):=by
 intro a0 a1 k;have ih0:=Y35.mono_l k;unfold Y35.f
 repeat' first|(with_reducible first|apply ih0|exact lR _|exact lN _|refine lI ?_ ?_|refine lB ?_ fun _=>?_)|exact lN _|refine lI ?_ ?_|refine lB ?_ fun _=>?_
set_option maxHeartbeats 60000000 in
set_option maxRecDepth 100000 in
theorem Y35.calls (k:Nat) (A0:Option Addr) (c0:Nat) (l0:List Bool) (a1 r:Int) (w:World) (hr0:Kd.C Kd.bool w A0 l0.length l0) (hc0:l0.length≤c0) (h:Y35.f k l0 a1=some r) :
  Calls Try.prog 49 #[.slice A0 l0.length c0,a1] w fun e w'=>e=.returned (.int .i64 r)∧Drawn0 w w':=by
 have aJ:=aM hr0;have bA:=aM hc0;clear hr0 hc0;have H:(Y35.l0 k l0 a1 0)=some r:=h;clear h;have H':=aM H;clear H;go_enter Try.func49,Try.ntmps49
 go_wp2
 go_loopg [1,5] k (fun kq v1 v5 w'=>∃ (aC:Int) (aA:Int),v1=.int .i64 aC∧v5=.int .i64 aA∧Aside0 (Y35.l0 kq l0 aC aA=some r)∧Aside0 (kq≤k)∧Drawn0 w w')
 case atStart=>exact ⟨(a1),(0),xE,xE,H',⟨Nat.le_refl _⟩,by repeat (first|exact Drawn0.refl _|apply Drawn0.step)⟩
 case round =>
  clear H'
  try clear p2
  obtain ⟨aC,aA,rfl,rfl,HA,aK,⟨m1,rfl⟩⟩:=hrel;cases gk with
  | zero=>exact absurd HA.out (by simp [Y35.l0])
  | succ k1 =>
   have H:=HA.out;clear HA;simp only [Y35.l0] at H
   by_cases c3:aA<(l0.length:Int)
   case neg =>
    rw [if_neg c3] at H
    have aN:=decide_eq_false c3;clear c3;obtain rfl:=Option.some.inj H;go_wp2
    go_ret
    exact ⟨by first|rfl|(simp;done)|(simp [*];done),by repeat (first|exact Drawn0.refl _|apply Drawn0.step)⟩
   rw [if_pos c3] at H
   have aN:=decide_eq_true c3;clear c3;obtain ⟨aW,H⟩:=gI H
   by_cases c5:((rdOf false l0 aA) != ((Int.tmod aC 3) == 0))=true
   case pos =>
    rw [if_pos c5] at H
    have aQ:((rdOf false l0 aA) != ((Int.tmod aC 3) == 0))=true:=c5
    (try (have aT:decide ((rdOf false l0 aA)=((Int.tmod aC 3) == 0))=false:=by simpa using c5))
    (try (have aV:((rdOf false l0 aA) == ((Int.tmod aC 3) == 0))=false:=by simpa using c5))
    (try (have aX:¬ ((rdOf false l0 aA)=((Int.tmod aC 3) == 0)):=by simpa using c5))
    clear c5;obtain rfl:=Option.some.inj H;have aD:0≤(aA:Int):=dT;have aE:aA<(l0.length:Int):=dT;obtain ⟨aI,aG,aH⟩:=Kd.at_bool aJ.out aA aD aE;cases aG
    replace aD:=eq_true aD;replace aE:=eq_true aE;go_wp2
    go_ret
    exact ⟨by first|rfl|(simp;done)|(simp [*];done),by repeat (first|exact Drawn0.refl _|apply Drawn0.step)⟩
   rw [if_neg c5] at H
   have aQ:((rdOf false l0 aA) != ((Int.tmod aC 3) == 0))=false:=by simpa using c5
   (try (have aT:decide ((rdOf false l0 aA)=((Int.tmod aC 3) == 0))=true:=by simpa using c5))
   (try (have aV:((rdOf false l0 aA) == ((Int.tmod aC 3) == 0))=true:=by simpa using c5))
   clear c5;have H':=aM H;clear H;have aD:0≤(aA:Int):=dT;have aE:aA<(l0.length:Int):=dT;obtain ⟨aI,aG,aH⟩:=Kd.at_bool aJ.out aA aD aE;cases aG
   replace aD:=eq_true aD;replace aE:=eq_true aE;go_wp2
   go_roundg k1
   case measure=>have:=aK.out;omega
   case rel=>exact ⟨(wS aC),(wS aA),xE,xE,H',⟨by have:=aK.out;omega⟩,by repeat (first|exact Drawn0.refl _|apply Drawn0.step)⟩

def Y40.l0:Nat→List Int→Int→Int→Option (Int)
 | 0,_,_,_=>none
 | k+1,x0,x1,x5=>if x5<(x0.length:Int) then (if 0≤x5 then (if (rd x0 x5)=x1 then (Y40.l0 k x0 (wrap64 (x1+1)) (wrap64 (x5+1))) else (some (-1))) else (none)) else (some x1)
def Y40.f (k:Nat) (l0:List Int) (a1:Int):Option (Int):=Y40.l0 k l0 a1 0
theorem Y40.mono_l:∀ k,(∀ y0 y1 y2,LeO (Y40.l0 k y0 y1 y2) (Y40.l0 (k+1) y0 y1 y2))
 | 0=>fun _ _ _ r h=>by simp [Y40.l0] at h
 | k+1=>by
  have ih0:=Y40.mono_l k
  ·intro y0 y1 y2
   unfold Y40.l0
   repeat' first|(with_reducible first|apply ih0|exact lR _|exact lN _|refine lI ?_ ?_|refine lB ?_ fun _=>?_)|exact lN _|refine lI ?_ ?_|refine lB ?_ fun _=>?_
theorem Y40.mono:∀ a0 a1 k,LeO (Y40.f k a0 a1) (Y40.f (k+1) a0 a1):=by
 intro a0 a1 k;have ih0:=Y40.mono_l k;unfold Y40.f
 repeat' first|(with_reducible first|apply ih0|exact lR _|exact lN _|refine lI ?_ ?_|refine lB ?_ fun _=>?_)|exact lN _|refine lI ?_ ?_|refine lB ?_ fun _=>?_
set_option maxHeartbeats 60000000 in
set_option maxRecDepth 100000 in
theorem Y40.calls (k:Nat) (A0:Option Addr) (c0:Nat) (l0:List Int) (a1 r:Int) (w:World) (hr0:Kd.C (Kd.int .i64) w A0 l0.length l0) (hc0:l0.length≤c0) (h:Y40.f k l0 a1=some r) :
  Calls Try.prog 77 #[.slice A0 l0.length c0,a1] w fun e w'=>e=.returned (.int .i64 r)∧Drawn0 w w':=by
 have aJ:=aM hr0;have aW:=aM hc0;clear hr0 hc0;have H:(Y40.l0 k l0 a1 0)=some r:=h;clear h;have H':=aM H;clear H;go_enter Try.func77,Try.ntmps77
 go_wp2
 go_loopg [1,5] k (fun kq v1 v5 w'=>∃ (aC:Int) (aA:Int),v1=.int .i64 aC∧v5=.int .i64 aA∧Aside0 (Y40.l0 kq l0 aC aA=some r)∧Aside0 (kq≤k)∧Drawn0 w w')
 case atStart=>exact ⟨(a1),(0),xE,xE,H',⟨Nat.le_refl _⟩,by repeat (first|exact Drawn0.refl _|apply Drawn0.step)⟩
 case round =>
  clear H'
  try clear p2
  obtain ⟨aC,aA,rfl,rfl,HA,aK,⟨m1,rfl⟩⟩:=hrel;cases gk with
  | zero=>exact absurd HA.out (by simp [Y40.l0])
  | succ k1 =>
   have H:=HA.out;clear HA;simp only [Y40.l0] at H
   by_cases c3:aA<(l0.length:Int)
   case neg =>
    rw [if_neg c3] at H
    have aN:=decide_eq_false c3;clear c3;obtain rfl:=Option.some.inj H;go_wp2
    go_ret
    exact ⟨by first|rfl|(simp;done)|(simp [*];done),by repeat (first|exact Drawn0.refl _|apply Drawn0.step)⟩
   rw [if_pos c3] at H
   have aN:=decide_eq_true c3;clear c3;obtain ⟨aV,H⟩:=gI H
   by_cases c5:(rd l0 aA)=aC
   case neg =>
    rw [if_neg c5] at H
    have aQ:((rd l0 aA) == aC)=false:=beq_eq_false_iff_ne.mpr c5;have aT:((rd l0 aA) != aC)=true:=bne_iff_ne.mpr c5;obtain rfl:=Option.some.inj H;have aD:0≤(aA:Int):=dT;have aE:aA<(l0.length:Int):=dT;obtain ⟨aI,aG,aH⟩:=Kd.at_int aJ.out aA aD aE;cases aG
    replace aD:=eq_true aD;replace aE:=eq_true aE;go_wp2
    go_ret
    exact ⟨by first|rfl|(simp;done)|(simp [*];done),by repeat (first|exact Drawn0.refl _|apply Drawn0.step)⟩
   rw [if_pos c5] at H
   have aQ:((rd l0 aA) == aC)=true:=beq_iff_eq.mpr c5;have aT:((rd l0 aA) != aC)=false:=bne_eq_false_iff_eq.mpr c5;clear c5;have H':=aM H;clear H;have aD:0≤(aA:Int):=dT;have aE:aA<(l0.length:Int):=dT;obtain ⟨aI,aG,aH⟩:=Kd.at_int aJ.out aA aD aE;cases aG
   replace aD:=eq_true aD;replace aE:=eq_true aE;go_wp2
   go_roundg k1
   case measure=>have:=aK.out;omega
   case rel=>exact ⟨(wS aC),(wS aA),xE,xE,H',⟨by have:=aK.out;omega⟩,by repeat (first|exact Drawn0.refl _|apply Drawn0.step)⟩

def Y38.l0:Nat→List (S60)→Int→Int→Option (Int)
 | 0,_,_,_=>none
 | k+1,x0,x1,x5=>if x5<(x0.length:Int) then (if 0≤x5 then (if ((rd_T60 x0 x5).f0)=x1 then ((Y40.f k ((rd_T60 x0 x5).f1) (wrap64 (x1+1))).bind fun aA=>(if aA<0 then (some (-1)) else (Y38.l0 k x0 aA (wrap64 (x5+1))))) else (some (-1))) else (none)) else (some x1)
def Y38.f (k:Nat) (l0:List (S60)) (a1:Int):Option (Int):=Y38.l0 k l0 a1 0
theorem Y38.mono_l:∀ k,(∀ y0 y1 y2,LeO (Y38.l0 k y0 y1 y2) (Y38.l0 (k+1) y0 y1 y2))
 | 0=>fun _ _ _ r h=>by simp [Y38.l0] at h
 | k+1=>by
  have ih0:=Y38.mono_l k
  ·intro y0 y1 y2
   unfold Y38.l0
   repeat' first|(with_reducible first|apply ih0|apply Y40.mono|exact lR _|exact lN _|refine lI ?_ ?_|refine lB ?_ fun _=>?_)|exact lN _|refine lI ?_ ?_|refine lB ?_ fun _=>?_
theorem Y38.mono:∀ a0 a1 k,LeO (Y38.f k a0 a1) (Y38.f (k+1) a0 a1):=by
 intro a0 a1 k;have ih0:=Y38.mono_l k;unfold Y38.f
 repeat' first|(with_reducible first|apply ih0|apply Y40.mono|exact lR _|exact lN _|refine lI ?_ ?_|refine lB ?_ fun _=>?_)|exact lN _|refine lI ?_ ?_|refine lB ?_ fun _=>?_
set_option maxHeartbeats 60000000 in
set_option maxRecDepth 100000 in
theorem Y38.calls (k:Nat) (A0:Option Addr) (c0:Nat) (l0:List (S60)) (a1 r:Int) (w:World) (hr0:Kd.C k60 w A0 l0.length l0) (hc0:l0.length≤c0) (h:Y38.f k l0 a1=some r) :
  Calls Try.prog 50 #[.slice A0 l0.length c0,a1] w fun e w'=>e=.returned (.int .i64 r)∧Drawn0 w w':=by
 have bI:=aM hr0;have bW:=aM hc0;clear hr0 hc0;have H:(Y38.l0 k l0 a1 0)=some r:=h;clear h;have H':=aM H;clear H;go_enter Try.func50,Try.ntmps50
 go_wp2
 go_loopg [1,5] k (fun kq v1 v5 w'=>∃ (aC:Int) (aA:Int),v1=.int .i64 aC∧v5=.int .i64 aA∧Aside0 (Y38.l0 kq l0 aC aA=some r)∧Aside0 (kq≤k)∧Drawn0 w w')
 case atStart=>exact ⟨(a1),(0),xE,xE,H',⟨Nat.le_refl _⟩,by repeat (first|exact Drawn0.refl _|apply Drawn0.step)⟩
 case round =>
  clear H'
  try clear p2
  obtain ⟨aC,aA,rfl,rfl,HA,bN,⟨m1,rfl⟩⟩:=hrel;cases gk with
  | zero=>exact absurd HA.out (by simp [Y38.l0])
  | succ k1 =>
   have H:=HA.out;clear HA;simp only [Y38.l0] at H
   by_cases c3:aA<(l0.length:Int)
   case neg =>
    rw [if_neg c3] at H
    have bP:=decide_eq_false c3;clear c3;obtain rfl:=Option.some.inj H;go_wp2
    go_ret
    exact ⟨by first|rfl|(simp;done)|(simp [*];done),by repeat (first|exact Drawn0.refl _|apply Drawn0.step)⟩
   rw [if_pos c3] at H
   have bP:=decide_eq_true c3;clear c3;obtain ⟨bV,H⟩:=gI H
   by_cases c5:((rd_T60 l0 aA).f0)=aC
   case neg =>
    rw [if_neg c5] at H
    have bQ:(((rd_T60 l0 aA).f0) == aC)=false:=beq_eq_false_iff_ne.mpr c5;have bT:(((rd_T60 l0 aA).f0) != aC)=true:=bne_iff_ne.mpr c5;obtain rfl:=Option.some.inj H;have aD:0≤(aA:Int):=dT;have aE:aA<(l0.length:Int):=dT;obtain ⟨aV,aJ,aK,aW,aX,aG,hl611_1,hi611_1⟩:=at_T60 bI.out aA aD aE;cases aW
    have bA:=aM hi611_1;have bD:=aM hl611_1;clear hi611_1 hl611_1;replace aD:=eq_true aD;replace aE:=eq_true aE;go_wp2
    go_ret
    exact ⟨by first|rfl|(simp;done)|(simp [*];done),by repeat (first|exact Drawn0.refl _|apply Drawn0.step)⟩
   rw [if_pos c5] at H
   have bQ:(((rd_T60 l0 aA).f0) == aC)=true:=beq_iff_eq.mpr c5;have bT:(((rd_T60 l0 aA).f0) != aC)=false:=bne_eq_false_iff_eq.mpr c5;clear c5;obtain ⟨bG,bO,H⟩:=hB H;have A6:=aM bO;clear bO
   by_cases c7:bG<0
   case pos =>
    rw [if_pos c7] at H
    have bU:=decide_eq_true c7;clear c7;obtain rfl:=Option.some.inj H;have aD:0≤(aA:Int):=dT;have aE:aA<(l0.length:Int):=dT;obtain ⟨aV,aJ,aK,aW,aX,aG,hl611_1,hi611_1⟩:=at_T60 bI.out aA aD aE;cases aW
    have bA:=aM hi611_1;have bD:=aM hl611_1;clear hi611_1 hl611_1;replace aD:=eq_true aD;replace aE:=eq_true aE;have aH:0≤(aA:Int):=dT;have aI:aA<(l0.length:Int):=dT;obtain ⟨bH,bL,bM,bJ,bK,aN,hl612_1,hi612_1⟩:=at_T60 bI.out aA aH aI;obtain rfl:aV=bH:=(by injection bJ)
    have aQ:=aM hi612_1;have aT:=aM hl612_1;clear hi612_1 hl612_1;replace aH:=eq_true aH;replace aI:=eq_true aI;have ea_:=Option.some.inj (aG.symm.trans aN)
    injection ea_ with ea_ en_ ec_
    subst ea_;subst ec_;clear en_;go_wp2_with (first|((with_reducible refine gC (f:=77) rfl ?_);refine gL (some 27) Try.func77 #[.slice aJ ((rd_T60 l0 aA).f1).length aK,.int .i64 (wS aC)] ?_;(with_reducible refine (Y40.calls k1 _ _ ((rd_T60 l0 aA).f1) (wS aC) bG _ ?side1 ?side2 A6.out).mono ?_);(case side1=>exact cM aQ.out);(case side2=>exact aT.out);rintro e w' ⟨rfl,⟨nd,rfl⟩⟩;refine ⟨_,rfl,?_⟩))
    go_ret
    exact ⟨by first|rfl|(simp;done)|(simp [*];done),by repeat (first|exact Drawn0.refl _|apply Drawn0.step)⟩
   rw [if_neg c7] at H
   have bU:=decide_eq_false c7;clear c7;have H':=aM H;clear H;have aD:0≤(aA:Int):=dT;have aE:aA<(l0.length:Int):=dT;obtain ⟨aV,aJ,aK,aW,aX,aG,hl611_1,hi611_1⟩:=at_T60 bI.out aA aD aE;cases aW
   have bA:=aM hi611_1;have bD:=aM hl611_1;clear hi611_1 hl611_1;replace aD:=eq_true aD;replace aE:=eq_true aE;have aH:0≤(aA:Int):=dT;have aI:aA<(l0.length:Int):=dT;obtain ⟨bH,bL,bM,bJ,bK,aN,hl612_1,hi612_1⟩:=at_T60 bI.out aA aH aI;obtain rfl:aV=bH:=(by injection bJ)
   have aQ:=aM hi612_1;have aT:=aM hl612_1;clear hi612_1 hl612_1;replace aH:=eq_true aH;replace aI:=eq_true aI;have ea_:=Option.some.inj (aG.symm.trans aN)
   injection ea_ with ea_ en_ ec_
   subst ea_;subst ec_;clear en_;go_wp2_with (first|((with_reducible refine gC (f:=77) rfl ?_);refine gL (some 27) Try.func77 #[.slice aJ ((rd_T60 l0 aA).f1).length aK,.int .i64 (wS aC)] ?_;(with_reducible refine (Y40.calls k1 _ _ ((rd_T60 l0 aA).f1) (wS aC) bG _ ?side1 ?side2 A6.out).mono ?_);(case side1=>exact cM aQ.out);(case side2=>exact aT.out);rintro e w' ⟨rfl,⟨nd,rfl⟩⟩;refine ⟨_,rfl,?_⟩))
   go_roundg k1
   case measure=>have:=bN.out;omega
   case rel=>exact ⟨(bG),(wS aA),xE,xE,H',⟨by have:=bN.out;omega⟩,by repeat (first|exact Drawn0.refl _|apply Drawn0.step)⟩

end Go.Proofs.Ytfljolhhgheheaa.PFnExactPass
