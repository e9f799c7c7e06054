/- A part of the proof of laws.FnIns. No condition beyond what its theorems say. -/
import Derived.Test.YtljbdchibfjbdaaDoorVFnInsPx4
namespace Go.Proofs.YtljbdchibfjbdaaDoor.PFnIns
open Go.RowKit Go.Proofs.YtljbdchibfjbdaaDoorW.PrintWords Go.Proofs.YtljbdchibfjbdaaDoorW.PrintLast Go.Proofs.YtljbdchibfjbdaaDoorW.PrintMore
set_option linter.unusedVariables false
set_option linter.unusedSimpArgs false

attribute [local go_sem high] eqA25 eqA27
def Z40.l0:Nat→Int→Int→List Int→Int→Int→Option (Int)
 | 0,_,_,_,_,_=>none
 | k+1,x3,x4,x7,x8,x9=>if x9<x8 then (if 0≤x9 then (if x9<(x7.length:Int) then (Z40.l0 k (Int.tmod (wrap64 (x3+(wrap64 (rd x7 x9)))) 65521) (Int.tmod (wrap64 (x4+(Int.tmod (wrap64 (x3+(wrap64 (rd x7 x9)))) 65521))) 65521) x7 x8 (wrap64 (x9+1))) else (none)) else (none)) else (some (wrap64 ((wrap64 (x4*65536))+x3)))
def Z40.f (k:Nat) (l0:List Int):Option (Int):=Z40.l0 k 1 0 l0 (l0.length:Int) 0
theorem Z40.mono_l:∀ k,(∀ y0 y1 y2 y3 y4,LeO (Z40.l0 k y0 y1 y2 y3 y4) (Z40.l0 (k+1) y0 y1 y2 y3 y4))
 | 0=>fun _ _ _ _ _ r h=>by simp [Z40.l0] at h
 | k+1=>by
  have ih0:=Z40.mono_l k
  ·intro y0 y1 y2 y3 y4
   unfold Z40.l0
   repeat' (with_reducible first|apply ih0|exact lR _|refine lI ?_ ?_)
theorem Z40.mono:∀ a0 k,LeO (Z40.f k a0) (Z40.f (k+1) a0):=by
 intro a0 k;have ih0:=Z40.mono_l k;unfold Z40.f
 repeat' (with_reducible apply ih0)
set_option maxHeartbeats 60000000 in
set_option maxRecDepth 100000 in
theorem Z40.calls (k:Nat) (A0:Option Addr) (c0:Nat) (l0:List Int) (r:Int) (w:World) (hr0:Kd.C (Kd.int .u8) w A0 l0.length l0) (hc0:l0.length≤c0) (h:Z40.f k l0=some r) :
  Calls Tryd.prog 36 #[.slice A0 l0.length c0] w fun e w'=>e=.returned (.int .i64 r)∧Drawn0 w w':=by
 have aN:=aM hr0;have aW:=aM hc0;clear hr0 hc0;have H:(Z40.l0 k 1 0 l0 (l0.length:Int) 0)=some r:=h;clear h;have H':=aM H;clear H;go_enter Tryd.func36,Tryd.ntmps36
 go_wp2
 go_loopg [3,4,9] k (fun kq v3 v4 v9 w'=>∃ (aC:Int) (aD:Int) (aA:Int),v3=.int .i64 aC∧v4=.int .i64 aD∧v9=.int .i64 aA∧Aside0 (Z40.l0 kq aC aD l0 (l0.length:Int) aA=some r)∧Aside0 (kq≤k)∧Drawn0 w w')
 case atStart=>exact ⟨(1),(0),(0),xE,xE,xE,H',⟨Nat.le_refl _⟩,by repeat (exact Drawn0.refl _)⟩
 case round =>
  clear H';obtain ⟨aC,aD,aA,rfl,rfl,rfl,HA,aH,⟨m1,rfl⟩⟩:=hrel;cases gk with
  | zero=>exact absurd HA.out (by simp [Z40.l0])
  | succ k1 =>
   have H:=HA.out;clear HA;simp only [Z40.l0] at H
   by_cases c2:aA<(l0.length:Int)
   case neg =>
    rw [if_neg c2] at H
    have aI:=decide_eq_false c2;clear c2;obtain rfl:=Option.some.inj H;go_wp2
    go_ret
    exact ⟨by rfl,by repeat (first|exact Drawn0.refl _|apply Drawn0.step)⟩
   rw [if_pos c2] at H
   have aI:=decide_eq_true c2;clear c2;obtain ⟨aT,H⟩:=gI H;obtain ⟨aV,H⟩:=gI H;have H':=aM H;clear H;have aE:0≤(aA:Int):=dT;have aG:aA<(l0.length:Int):=dT;obtain ⟨aQ,aJ,aK⟩:=Kd.at_int aN.out aA aE aG;cases aJ
   replace aE:=eq_true aE;replace aG:=eq_true aG;go_wp2
   go_roundg k1
   case measure=>have:=aH.out;omega
   case rel=>exact ⟨(Int.tmod (wrap64 (aC+(wrap64 (rd l0 aA)))) 65521),(Int.tmod (wrap64 (aD+(Int.tmod (wrap64 (aC+(wrap64 (rd l0 aA)))) 65521))) 65521),(wS aA),xE,xE,xE,H',⟨by have:=aH.out;omega⟩,by repeat (first|exact Drawn0.refl _|apply Drawn0.step)⟩

def Z45.f (k:Nat) (l0:List Int):Option (List Int):=(Z40.f k l0).bind fun aA=>((some (([(aA) % 256,(aA / 256) % 256,(aA / 65536) % 256,(aA / 16777216) % 256]:List Int):List Int)).bind fun aC=>(if l0.length+aC.length<140737488355328 then (some (l0++aC)) else (none)))
theorem Z45.mono:∀ a0 k,LeO (Z45.f k a0) (Z45.f (k+1) a0):=by
 intro a0 k;unfold Z45.f
 repeat' (with_reducible first|apply Z40.mono|exact lR _|refine lB ?_ fun _=>?_)
set_option maxHeartbeats 60000000 in
set_option maxRecDepth 100000 in
theorem Z45.calls (k:Nat) (P0_:Nat→Prop) (aH:Value) (l0:List Int) (r:List Int) (w0 w:World) (hB:Below w0.heap.size w0 w) (ho0:Kd.R (Kd.int .u8) 5 w w0.heap.size P0_ aH l0) (h:Z45.f k l0=some r) :
  Calls Tryd.prog 47 #[aH] w fun e w'=>∃ aQ:Value,e=.returned (aQ)∧Kd.R (Kd.int .u8) 5 w' w0.heap.size (fun k_=>(P0_ k_∨w.heap.size≤k_)) aQ r∧Below w0.heap.size w0 w'∧Kept w w' (fun k_=>P0_ k_):=by
 have aD:=aM (show Kd.R (Kd.int .u8) 5 w w0.heap.size (fun k_=>(P0_ k_∨w.heap.size≤k_)) aH l0 from Kd.R_mono ho0 (fun k_ hk=>(.inl hk)))
 have HK:=aM (Kept.refl w (fun k_=>P0_ k_))
 have HW0:=aM hB.size;have HB:=aM hB;clear hB;have H:((Z40.f k l0).bind fun aA=>((some (([(aA) % 256,(aA / 256) % 256,(aA / 65536) % 256,(aA / 16777216) % 256]:List Int):List Int)).bind fun aE=>(if l0.length+aE.length<140737488355328 then (some (l0++aE)) else (none))))=some r:=h
 clear h;obtain ⟨aA,aT,H⟩:=hB H;have A2:=aM aT;clear aT;obtain ⟨aE,aI,H⟩:=hS H;have aJ:=aM aI;clear aI
 by_cases c3:l0.length+aE.length<140737488355328
 case neg =>
  rw [if_neg c3] at H
  exact absurd H (by simp)
 rw [if_pos c3] at H
 have LMc3:=aM c3;clear c3;obtain ⟨aX,aG⟩:∃ y_:List Int,y_=(l0++aE):=⟨_,rfl⟩;replace H:(some aX)=some r:=by (rw [aG];with_reducible exact H)
 have aK:=aM aG;clear aG;obtain rfl:=Option.some.inj H;obtain ⟨aV,aW,bA⟩:=Kd.R_slice aD.out;subst bA;go_enter Tryd.func47,Tryd.ntmps47
 go_wp2_with (first|((with_reducible refine gC (f:=36) rfl ?_);refine goesL_ (some 5) rfl rfl Tryd.func36 (by kernel_rfl) rfl #[.slice aV l0.length aW] rfl xR ?_;(with_reducible refine (Z40.calls k _ _ l0 aA _ ?side1 ?side2 A2.out).mono ?_);(case side1=>exact cM ((Kd.R_reads' aD.out).2.2));(case side2=>exact (Kd.R_reads' aD.out).2.1);rintro e w' ⟨rfl,⟨nd,rfl⟩⟩;refine ⟨_,rfl,?_⟩)|((with_reducible refine gD (N:=18) rfl ?_);refine Kd.R_lit (Kd.int .u8) _ 5 ?hg (N:=18) ?hd (xs:=([(aA) % 256,(aA / 256) % 256,(aA / 65536) % 256,(aA / 16777216) % 256]:List Int)) (inner:=[.int .u8 ((aA) % 256),.int .u8 ((aA / 256) % 256),.int .u8 ((aA / 65536) % 256),.int .u8 ((aA / 16777216) % 256)]) (ok:=fun _=>True) (okp:=fun _=>True) ?hr ?hp (fun _ hk=>hk) trivial (Below.refl _ _) (Nat.le_refl _) (by simp) ?_;(case hd=>rfl);(case hg=>rfl);(case hr=>(go_simp;done));(case hp=>exact (Reps.one (show Kd.M (Kd.int .u8) _ _ _ ((aA) % 256) [.int .u8 ((aA) % 256)] from rfl) (Reps.one (show Kd.M (Kd.int .u8) _ _ _ ((aA / 256) % 256) [.int .u8 ((aA / 256) % 256)] from rfl) (Reps.one (show Kd.M (Kd.int .u8) _ _ _ ((aA / 65536) % 256) [.int .u8 ((aA / 65536) % 256)] from rfl) (Reps.one (show Kd.M (Kd.int .u8) _ _ _ ((aA / 16777216) % 256) [.int .u8 ((aA / 16777216) % 256)] from rfl) (Reps.none _ _))))));intro bI w5 ho6 hb hg_ hnew_;clear hg_ hnew_;(rw [← aJ.out] at ho6);have aC:=aM (Kd.R_lower (Kd.R_new' (Kd.R_newM (M:=fun k_=>(P0_ k_∨w.heap.size≤k_)) ho6 (kk HK.out).1 (fun k_ h_=>.inr h_)) (Kd.R_lt (kr aD.out))) (below_size (bl HB.out)));replace aD:=aM (Kd.R_elder' (kr aD.out) (Kd.R_base ho6) hb);replace HK:=aM (Kept.below (S:=(fun k_=>P0_ k_)) (kk HK.out) hb);replace HB:=rS HB hb;clear hb ho6;obtain ⟨bD,bG,bH⟩:=Kd.R_slice aC.out;subst bH)|((with_reducible refine gate_builtin (b:=.append) (xs:=#[.tmp 6,.tmp 18]) rfl ?_);at_builtin;refine Kd.R_append_rows (Kd.int .u8) (w0:=w0) w0.heap.size rfl (.tmp 6) (.tmp 18) 22 5 (.int .u8 0) 1 rfl Tryd.underlying22 info5 rfl (by decide) (by omega) (.slice aV l0.length aW) l0 aE _ _ _ (fun k_=>(P0_ k_∨w.heap.size≤k_)∧some k_≠(.slice bD aE.length bG:Value).ownBlock) (fun _=>False) rfl rfl ?aO ?aR (fun _ _ h=>h) (fun _ h=>h.elim) ?aF ?aB ?aS ?aL ?_;(case aR=>repeat (exact (Kd.R_reads' aC.out).2.2));(case aB=>exact (bl HB.out));(case aF=>exact (fun k_ hk=>⟨(.inr (Nat.le_trans (kk HK.out).1 hk)),Kd.fresh' (Kd.R_lt (kr aC.out)) k_ hk⟩));(case aO=>exact (kr aD.out));(case aS=>exact (below_size (bl HB.out)));(case aL=>have:=LMc3.out;omega);intro bJ w7 ho hb hg hat;rw [← aK.out] at ho;have aN:=aM (ho);replace aC:=aM (Kd.R_after (ok:=(fun k_=>(P0_ k_∨w.heap.size≤k_))) (kr (Kd.R_mono aC.out (fun _ hk=>⟨hk.1.1,hk.2⟩))) hg hat);replace HB:=aM (hb);replace HK:=aM (Kept.of_grown (S:=(fun k_=>P0_ k_)) hg (kk HK.out) (fun k_ e_=>(aD.out.1 k_ e_).1));clear aD;clear ho hb hg hat))
 go_ret
 exact ⟨_,xW,kr (Kd.R_mono aN.out (fun _ hk=>hk.1)),bl HB.out,kk HK.out⟩

def Z38.f (k:Nat) (aA aD aE aG aH aI aJ:Int) (aK:Bool):Option (List Int):=(Z49.f aA aD aE aG aH aI aJ aK).bind fun aN=>(if aN=true then ((Z25.f k ([]:List Int) (([aA,aD]:List Int))).bind fun aC=>(if aA=1 then ((Z25.f k aC (([aE,aG,aH,aI,aJ]:List Int))).bind fun aQ=>((Z45.f k aQ).bind fun aT=>(some aT))) else (if aA=3 then ((Z79.f aK).bind fun aV=>(if aC.length<140737488355328 then ((Z45.f k (aC++[aV])).bind fun aW=>(some aW)) else (none))) else ((Z45.f k aC).bind fun aX=>(some aX))))) else (some ([]:List Int)))
theorem Z38.mono:∀ a0 a1 a2 a3 a4 a5 a6 a7 k,LeO (Z38.f k a0 a1 a2 a3 a4 a5 a6 a7) (Z38.f (k+1) a0 a1 a2 a3 a4 a5 a6 a7):=by
 intro a0 a1 a2 a3 a4 a5 a6 a7 k;unfold Z38.f
 repeat' (with_reducible first|apply Z25.mono|apply Z45.mono|exact lR _|refine lI ?_ ?_|refine lB ?_ fun _=>?_)
set_option maxHeartbeats 60000000 in
set_option maxRecDepth 100000 in
theorem Z38.calls (k:Nat) (aD aG aI aJ aK aN aQ:Int) (aT:Bool) (r:List Int) (w:World) (h:Z38.f k aD aG aI aJ aK aN aQ aT=some r) :
  Calls Tryd.prog 7 #[.agg #[aD,aG,aI,aJ,aK,aN,aQ,aT]] w fun e w'=>∃ dD:Value,e=.returned (dD)∧Kd.R (Kd.int .u8) 5 w' w.heap.size (fun _=>True) dD r∧Below w.heap.size w w':=by
 have eH:=Tryd.underlying27;have HB:=aM (Below.refl w.heap.size w);have H:((Z49.f aD aG aI aJ aK aN aQ aT).bind fun bW=>(if bW=true then ((Z25.f k ([]:List Int) (([aD,aG]:List Int))).bind fun aH=>(if aD=1 then ((Z25.f k aH (([aI,aJ,aK,aN,aQ]:List Int))).bind fun bA=>((Z45.f k bA).bind fun bI=>(some bI))) else (if aD=3 then ((Z79.f aT).bind fun bG=>(if aH.length<140737488355328 then ((Z45.f k (aH++[bG])).bind fun bJ=>(some bJ)) else (none))) else ((Z45.f k aH).bind fun bN=>(some bN))))) else (some ([]:List Int))))=some r:=h
 clear h;obtain ⟨bW,dE,H⟩:=hB H;have A2:=aM dE;clear dE
 by_cases c3:bW=true
 case neg =>
  replace c3:=Bool.eq_false_iff.mpr c3;subst c3;replace H:=hF H;obtain rfl:=Option.some.inj H;go_enter Tryd.func7,Tryd.ntmps7
  go_wp2_with (first|((with_reducible refine gD (N:=1) rfl ?_);refine bE (N:=1) (cs:=#[aD,aG,aI,aJ,aK,aN,aQ,aT]) (t:=27) ?_;intro bT hg eP hbox hb;have aA:=aM (hbox);have bU:=gF hg HB;have bV:=gF hg HB;replace HB:=rS HB hb;clear hb hbox hg;have dY:=cA8 aA.out)|((with_reducible refine gC (f:=24) rfl ?_);refine goesL_ (some 5) rfl rfl Tryd.func24 (by kernel_rfl) rfl #[.agg #[aD,aG,aI,aJ,aK,aN,aQ,aT]] rfl xR ?_;(with_reducible refine (Z49.calls aD aG aI aJ aK aN aQ aT false _ A2.out).mono ?_);rintro e eQ ⟨rfl,hb⟩;refine ⟨_,rfl,?_⟩;replace aA:=rB aA hb;replace HB:=rS HB hb;(try clear hb)))
  go_ret
  exact ⟨_,xW,by exact Kd.R_nil _ _ _ _ _,bl HB.out⟩
 subst c3;replace H:=hP H rfl;obtain ⟨bD,bK⟩:∃ y_:List Int,y_=(([aD,aG]:List Int)):=⟨_,rfl⟩;replace H:((Z25.f k ([]:List Int) bD).bind fun aH=>(if aD=1 then ((Z25.f k aH (([aI,aJ,aK,aN,aQ]:List Int))).bind fun bA=>((Z45.f k bA).bind fun bI=>(some bI))) else (if aD=3 then ((Z79.f aT).bind fun bG=>(if aH.length<140737488355328 then ((Z45.f k (aH++[bG])).bind fun bJ=>(some bJ)) else (none))) else ((Z45.f k aH).bind fun bN=>(some bN)))))=some r:=by (rw [bK];with_reducible exact H)
 have bH:=aM bK;clear bK;obtain ⟨aH,cP,H⟩:=hB H;have A4:=aM cP;clear cP
 by_cases c5:aD=1
 case pos =>
  rw [if_pos c5] at H
  have dH:(aD == 1)=true:=beq_iff_eq.mpr c5;have dI:(aD != 1)=false:=bne_eq_false_iff_eq.mpr c5;clear c5;obtain ⟨bO,bL⟩:∃ y_:List Int,y_=(([aI,aJ,aK,aN,aQ]:List Int)):=⟨_,rfl⟩;replace H:((Z25.f k aH bO).bind fun bA=>((Z45.f k bA).bind fun bI=>(some bI)))=some r:=by (rw [bL];with_reducible exact H)
  have cQ:=aM bL;clear bL;obtain ⟨bA,dF,H⟩:=hB H;have A6:=aM dF;clear dF;obtain ⟨bI,dG,H⟩:=hB H;have A7:=aM dG;clear dG;obtain rfl:=Option.some.inj H;go_enter Tryd.func7,Tryd.ntmps7
  go_wp2_with (first|((with_reducible refine gD (N:=1) rfl ?_);refine box_event ?hg (N:=1) ?hd (cs:=#[aD,aG,aI,aJ,aK,aN,aQ,aT]) (t:=27) ?hr ?_;(case hd=>rfl);(case hg=>rfl);(case hr=>(go_simp;done));intro bT hg w8 hbox hb;have aA:=aM (hbox);have bU:=gF hg HB;have bV:=gF hg HB;replace HB:=rS HB hb;clear hb hbox hg;have eI:=cA8 aA.out)|((with_reducible refine gC (f:=24) rfl ?_);refine goesL_ (some 5) rfl rfl Tryd.func24 (by kernel_rfl) rfl #[.agg #[aD,aG,aI,aJ,aK,aN,aQ,aT]] rfl xR ?_;(with_reducible refine (Z49.calls aD aG aI aJ aK aN aQ aT true _ A2.out).mono ?_);rintro e eR ⟨rfl,hb⟩;refine ⟨_,rfl,?_⟩;replace aA:=rB aA hb;replace HB:=rS HB hb;(try clear hb);have dZ:=cA8 aA.out)|((with_reducible refine gD (N:=11) rfl ?_);refine Kd.R_lit (Kd.int .i64) _ 3 ?hg (N:=11) ?hd (xs:=([aD,aG]:List Int)) (inner:=[.int .i64 aD,.int .i64 aG]) (ok:=fun _=>True) (okp:=fun _=>True) ?hr ?hp (fun _ hk=>hk) trivial (Below.refl _ _) (Nat.le_refl _) (by simp) ?_;(case hd=>rfl);(case hg=>rfl);(case hr=>(go_simp;done));(case hp=>exact (Reps.one (show Kd.M (Kd.int .i64) _ _ _ aD [.int .i64 aD] from rfl) (Reps.one (show Kd.M (Kd.int .i64) _ _ _ aG [.int .i64 aG] from rfl) (Reps.none _ _))));intro cS eS ho13 hb hg_ hnew_;clear hg_ hnew_;(rw [← bH.out] at ho13);have aC:=aM (Kd.R_lower ho13 (below_size (bl HB.out)));replace aA:=rB aA hb;replace HB:=rS HB hb;clear hb ho13;obtain ⟨bX,bY,dJ⟩:=Kd.R_slice aC.out;subst dJ)|((with_reducible refine gC (f:=45) rfl ?_);refine goesL_ (some 12) rfl rfl Tryd.func45 (by kernel_rfl) rfl #[.slice none 0 0,.slice bX bD.length bY] rfl xR ?_;(refine (Z25.calls k (fun k_=>some k_=(.slice none 0 0:Value).ownBlock) (.slice none 0 0) ([]:List Int) _ _ bD aH w _ ?side1 ?side2 ?side3 ?side4 A4.out).mono ?_);(case side1=>exact bl HB.out);(case side2=>exact Kd.R_nil _ _ _ _ _);(case side3=>exact Kd.C_kept_own (aC.out) (fun k_ hk_ hs_=>(fun e_=>by simp [Value.ownBlock] at e_) hs_));(case side4=>exact (Kd.R_reads' aC.out).2.1);rintro e eT ⟨bZ,rfl,ho0,hb,hkp⟩;refine ⟨_,rfl,?_⟩;have aE:=aM (Kd.R_mono (ok':=fun k_=>True) ho0 (fun k_ hk_=>trivial));replace aA:=aM (blk_kept (bk aA.out) hkp (fun hs_=>(fun e_=>by simp [Value.ownBlock] at e_) hs_));replace aC:=aM (Kd.R_mono (ok':=fun k_=>True) (Kd.R_keptB (aC.out) hkp (fun k_ hk_ hs_=>(fun e_=>by simp [Value.ownBlock] at e_) hs_)) (fun k_ hk_=>trivial));replace HB:=aM (hb);(repeat first|clear hb|clear hkp|clear ho0);have eA:=cA8 aA.out)|((with_reducible refine gD (N:=32) rfl ?_);refine Kd.R_lit (Kd.int .i64) _ 3 ?hg (N:=32) ?hd (xs:=([aI,aJ,aK,aN,aQ]:List Int)) (inner:=[.int .i64 aI,.int .i64 aJ,.int .i64 aK,.int .i64 aN,.int .i64 aQ]) (ok:=fun _=>True) (okp:=fun _=>True) ?hr ?hp (fun _ hk=>hk) trivial (Below.refl _ _) (Nat.le_refl _) (by simp) ?_;(case hd=>rfl);(case hg=>rfl);(case hr=>(go_simp;done));(case hp=>exact (Reps.one (show Kd.M (Kd.int .i64) _ _ _ aI [.int .i64 aI] from rfl) (Reps.one (show Kd.M (Kd.int .i64) _ _ _ aJ [.int .i64 aJ] from rfl) (Reps.one (show Kd.M (Kd.int .i64) _ _ _ aK [.int .i64 aK] from rfl) (Reps.one (show Kd.M (Kd.int .i64) _ _ _ aN [.int .i64 aN] from rfl) (Reps.one (show Kd.M (Kd.int .i64) _ _ _ aQ [.int .i64 aQ] from rfl) (Reps.none _ _)))))));intro eJ eU ho18 hb hg_ hnew_;clear hg_ hnew_;(rw [← cQ.out] at ho18);have aV:=aM (Kd.R_lower (Kd.R_new' ho18 (Kd.R_lt (kr aC.out))) (below_size (bl HB.out)));replace aC:=aM (Kd.R_elder' (kr aC.out) (Kd.R_base ho18) hb);replace aE:=rK aE hb;replace aA:=rB aA hb;replace HB:=rS HB hb;clear hb ho18;obtain ⟨cA,cC,dK⟩:=Kd.R_slice aE.out;subst dK;obtain ⟨cD,cE,dL⟩:=Kd.R_slice aV.out;subst dL)|((with_reducible refine gC (f:=45) rfl ?_);refine goesL_ (some 33) rfl rfl Tryd.func45 (by kernel_rfl) rfl #[.slice cA aH.length cC,.slice cD bO.length cE] rfl xR ?_;(with_reducible refine (Z25.calls k (fun k_=>some k_=(.slice cA aH.length cC:Value).ownBlock) (.slice cA aH.length cC) aH _ _ bO bA w _ ?side1 ?side2 ?side3 ?side4 A6.out).mono ?_);(case side1=>exact bl HB.out);(case side2=>exact Kd.R_tight rfl aE.out);(case side3=>exact Kd.C_kept_own ((Kd.R_apart' aV.out (Kd.R_typed aE.out) (by decide))) (fun k_ hk_ hs_=>(hk_.2) hs_));(case side4=>exact (Kd.R_reads' aV.out).2.1);rintro e eV ⟨eK,rfl,ho0,hb,hkp⟩;refine ⟨_,rfl,?_⟩;have aW:=aM (Kd.R_mono (ok':=fun k_=>True) ho0 (fun k_ hk_=>trivial));replace aA:=aM (blk_kept (bk aA.out) hkp (fun hs_=>(fun e_=>(Kd.R_ne aE.out aA.out (by decide)) e_) hs_));replace aC:=aM (Kd.R_mono (ok':=fun k_=>some k_≠(.slice cD bO.length cE:Value).ownBlock) (Kd.R_keptB ((Kd.R_apart' aC.out (Kd.R_typed aE.out) (by decide))) hkp (fun k_ hk_ hs_=>(hk_.2) hs_)) (fun k_ hk_=>hk_.1.1.2));replace aV:=aM (Kd.R_mono (ok':=fun k_=>some k_≠(.slice bX bD.length bY:Value).ownBlock) (Kd.R_keptB ((Kd.R_apart' aV.out (Kd.R_typed aE.out) (by decide))) hkp (fun k_ hk_ hs_=>(hk_.2) hs_)) (fun k_ hk_=>hk_.1.1.2));replace HB:=aM (hb);clear aE;(repeat first|clear hb|clear hkp|clear ho0);obtain ⟨cG,cH,dM⟩:=Kd.R_slice aW.out;subst dM)|((with_reducible refine gC (f:=47) rfl ?_);refine goesL_ (some 43) rfl rfl Tryd.func47 (by kernel_rfl) rfl #[.slice cG bA.length cH] rfl xR ?_;(with_reducible refine (Z45.calls k (fun k_=>some k_=(.slice cG bA.length cH:Value).ownBlock) (.slice cG bA.length cH) bA bI w _ ?side1 ?side2 A7.out).mono ?_);(case side1=>exact bl HB.out);(case side2=>exact Kd.R_tight rfl aW.out);rintro e eW ⟨eL,rfl,ho0,hb,hkp⟩;refine ⟨_,rfl,?_⟩;have cW:=aM (Kd.R_mono (ok':=fun k_=>True) ho0 (fun k_ hk_=>trivial));replace aA:=aM (blk_kept (bk aA.out) hkp (fun hs_=>(fun e_=>(Kd.R_ne aW.out aA.out (by decide)) e_) hs_));replace aC:=aM (Kd.R_mono (ok':=fun k_=>some k_≠(.slice cD bO.length cE:Value).ownBlock) (Kd.R_keptB ((Kd.R_apart' aC.out (Kd.R_typed aW.out) (by decide))) hkp (fun k_ hk_ hs_=>(hk_.2) hs_)) (fun k_ hk_=>hk_.1.1));replace aV:=aM (Kd.R_mono (ok':=fun k_=>some k_≠(.slice bX bD.length bY:Value).ownBlock) (Kd.R_keptB ((Kd.R_apart' aV.out (Kd.R_typed aW.out) (by decide))) hkp (fun k_ hk_ hs_=>(hk_.2) hs_)) (fun k_ hk_=>hk_.1.1));replace HB:=aM (hb);clear aW;(repeat first|clear hb|clear hkp|clear ho0)))
  go_ret
  exact ⟨_,xW,kr cW.out,bl HB.out⟩
 rw [if_neg c5] at H
 have dH:(aD == 1)=false:=beq_eq_false_iff_ne.mpr c5;have dI:(aD != 1)=true:=bne_iff_ne.mpr c5
 by_cases bP:aD=3
 case neg =>
  rw [if_neg bP] at H
  have cX:(aD == 3)=false:=beq_eq_false_iff_ne.mpr bP;have cY:(aD != 3)=true:=bne_iff_ne.mpr bP;obtain ⟨bN,cT,H⟩:=hB H;have cP:=aM cT;clear cT;obtain rfl:=Option.some.inj H;go_enter Tryd.func7,Tryd.ntmps7
  go_wp2_with (first|((with_reducible refine gD (N:=1) rfl ?_);refine box_event ?hg (N:=1) ?hd (cs:=#[aD,aG,aI,aJ,aK,aN,aQ,aT]) (t:=27) ?hr ?_;(case hd=>rfl);(case hg=>rfl);(case hr=>(go_simp;done));intro bT hg eX hbox hb;have aA:=aM (hbox);have bU:=gF hg HB;have bV:=gF hg HB;replace HB:=rS HB hb;clear hb hbox hg;have eB:=cA8 aA.out)|((with_reducible refine gC (f:=24) rfl ?_);refine goesL_ (some 5) rfl rfl Tryd.func24 (by kernel_rfl) rfl #[.agg #[aD,aG,aI,aJ,aK,aN,aQ,aT]] rfl xR ?_;(with_reducible refine (Z49.calls aD aG aI aJ aK aN aQ aT true _ A2.out).mono ?_);rintro e eY ⟨rfl,hb⟩;refine ⟨_,rfl,?_⟩;replace aA:=rB aA hb;replace HB:=rS HB hb;(try clear hb);have eC:=cA8 aA.out)|((with_reducible refine gD (N:=11) rfl ?_);refine Kd.R_lit (Kd.int .i64) _ 3 ?hg (N:=11) ?hd (xs:=([aD,aG]:List Int)) (inner:=[.int .i64 aD,.int .i64 aG]) (ok:=fun _=>True) (okp:=fun _=>True) ?hr ?hp (fun _ hk=>hk) trivial (Below.refl _ _) (Nat.le_refl _) (by simp) ?_;(case hd=>rfl);(case hg=>rfl);(case hr=>(go_simp;done));(case hp=>exact (Reps.one (show Kd.M (Kd.int .i64) _ _ _ aD [.int .i64 aD] from rfl) (Reps.one (show Kd.M (Kd.int .i64) _ _ _ aG [.int .i64 aG] from rfl) (Reps.none _ _))));intro cS eZ ho46 hb hg_ hnew_;clear hg_ hnew_;(rw [← bH.out] at ho46);have aC:=aM (Kd.R_lower ho46 (below_size (bl HB.out)));replace aA:=rB aA hb;replace HB:=rS HB hb;clear hb ho46;obtain ⟨dN,dO,dP⟩:=Kd.R_slice aC.out;subst dP)|((with_reducible refine gC (f:=45) rfl ?_);refine goesL_ (some 12) rfl rfl Tryd.func45 (by kernel_rfl) rfl #[.slice none 0 0,.slice dN bD.length dO] rfl xR ?_;(refine (Z25.calls k (fun k_=>some k_=(.slice none 0 0:Value).ownBlock) (.slice none 0 0) ([]:List Int) _ _ bD aH w _ ?side1 ?side2 ?side3 ?side4 A4.out).mono ?_);(case side1=>exact bl HB.out);(case side2=>exact Kd.R_nil _ _ _ _ _);(case side3=>exact Kd.C_kept_own (aC.out) (fun k_ hk_ hs_=>(fun e_=>by simp [Value.ownBlock] at e_) hs_));(case side4=>exact (Kd.R_reads' aC.out).2.1);rintro e fA ⟨bZ,rfl,ho0,hb,hkp⟩;refine ⟨_,rfl,?_⟩;have aE:=aM (Kd.R_mono (ok':=fun k_=>True) ho0 (fun k_ hk_=>trivial));replace aA:=aM (blk_kept (bk aA.out) hkp (fun hs_=>(fun e_=>by simp [Value.ownBlock] at e_) hs_));replace aC:=aM (Kd.R_mono (ok':=fun k_=>True) (Kd.R_keptB (aC.out) hkp (fun k_ hk_ hs_=>(fun e_=>by simp [Value.ownBlock] at e_) hs_)) (fun k_ hk_=>trivial));replace HB:=aM (hb);(repeat first|clear hb|clear hkp|clear ho0);have eD:=cA8 aA.out;obtain ⟨cK,cL,dQ⟩:=Kd.R_slice aE.out;subst dQ)|((with_reducible refine gC (f:=47) rfl ?_);refine goesL_ (some 43) rfl rfl Tryd.func47 (by kernel_rfl) rfl #[.slice cK aH.length cL] rfl xR ?_;(with_reducible refine (Z45.calls k (fun k_=>some k_=(.slice cK aH.length cL:Value).ownBlock) (.slice cK aH.length cL) aH bN w _ ?side1 ?side2 cP.out).mono ?_);(case side1=>exact bl HB.out);(case side2=>exact Kd.R_tight rfl aE.out);rintro e fB ⟨eM,rfl,ho0,hb,hkp⟩;refine ⟨_,rfl,?_⟩;have dA:=aM (Kd.R_mono (ok':=fun k_=>True) ho0 (fun k_ hk_=>trivial));replace aA:=aM (blk_kept (bk aA.out) hkp (fun hs_=>(fun e_=>(Kd.R_ne aE.out aA.out (by decide)) e_) hs_));replace aC:=aM (Kd.R_mono (ok':=fun k_=>True) (Kd.R_keptB ((Kd.R_apart' aC.out (Kd.R_typed aE.out) (by decide))) hkp (fun k_ hk_ hs_=>(hk_.2) hs_)) (fun k_ hk_=>trivial));replace HB:=aM (hb);clear aE;(repeat first|clear hb|clear hkp|clear ho0)))
  go_ret
  exact ⟨_,xW,kr dA.out,bl HB.out⟩
 rw [if_pos bP] at H
 have cX:(aD == 3)=true:=beq_iff_eq.mpr bP;have cY:(aD != 3)=false:=bne_eq_false_iff_eq.mpr bP;clear bP;obtain ⟨bG,cU,H⟩:=hB H;have dW:=aM cU;clear cU
 by_cases cR:aH.length<140737488355328
 case neg =>
  rw [if_neg cR] at H
  exact absurd H (by simp)
 rw [if_pos cR] at H
 have LMc26:=aM cR;clear cR;obtain ⟨bQ,bM⟩:∃ y_:List Int,y_=(aH++[bG]):=⟨_,rfl⟩;replace H:((Z45.f k bQ).bind fun bJ=>(some bJ))=some r:=by (rw [bM];with_reducible exact H)
 have dB:=aM bM;clear bM;obtain ⟨bJ,cV,H⟩:=hB H;have dX:=aM cV;clear cV;obtain rfl:=Option.some.inj H;go_enter Tryd.func7,Tryd.ntmps7
 go_wp2_with (first|((with_reducible refine gD (N:=1) rfl ?_);refine box_event ?hg (N:=1) ?hd (cs:=#[aD,aG,aI,aJ,aK,aN,aQ,aT]) (t:=27) ?hr ?_;(case hd=>rfl);(case hg=>rfl);(case hr=>(go_simp;done));intro bT hg fC hbox hb;have aA:=aM (hbox);have bU:=gF hg HB;have bV:=gF hg HB;replace HB:=rS HB hb;clear hb hbox hg;have eE:=cA8 aA.out)|((with_reducible refine gC (f:=24) rfl ?_);refine goesL_ (some 5) rfl rfl Tryd.func24 (by kernel_rfl) rfl #[.agg #[aD,aG,aI,aJ,aK,aN,aQ,aT]] rfl xR ?_;(with_reducible refine (Z49.calls aD aG aI aJ aK aN aQ aT true _ A2.out).mono ?_);rintro e fD ⟨rfl,hb⟩;refine ⟨_,rfl,?_⟩;replace aA:=rB aA hb;replace HB:=rS HB hb;(try clear hb);have eF:=cA8 aA.out)|((with_reducible refine gD (N:=11) rfl ?_);refine Kd.R_lit (Kd.int .i64) _ 3 ?hg (N:=11) ?hd (xs:=([aD,aG]:List Int)) (inner:=[.int .i64 aD,.int .i64 aG]) (ok:=fun _=>True) (okp:=fun _=>True) ?hr ?hp (fun _ hk=>hk) trivial (Below.refl _ _) (Nat.le_refl _) (by simp) ?_;(case hd=>rfl);(case hg=>rfl);(case hr=>(go_simp;done));(case hp=>exact (Reps.one (show Kd.M (Kd.int .i64) _ _ _ aD [.int .i64 aD] from rfl) (Reps.one (show Kd.M (Kd.int .i64) _ _ _ aG [.int .i64 aG] from rfl) (Reps.none _ _))));intro cS fE ho33 hb hg_ hnew_;clear hg_ hnew_;(rw [← bH.out] at ho33);have aC:=aM (Kd.R_lower ho33 (below_size (bl HB.out)));replace aA:=rB aA hb;replace HB:=rS HB hb;clear hb ho33;obtain ⟨dR,dS,dU⟩:=Kd.R_slice aC.out;subst dU)|((with_reducible refine gC (f:=45) rfl ?_);refine goesL_ (some 12) rfl rfl Tryd.func45 (by kernel_rfl) rfl #[.slice none 0 0,.slice dR bD.length dS] rfl xR ?_;(refine (Z25.calls k (fun k_=>some k_=(.slice none 0 0:Value).ownBlock) (.slice none 0 0) ([]:List Int) _ _ bD aH w _ ?side1 ?side2 ?side3 ?side4 A4.out).mono ?_);(case side1=>exact bl HB.out);(case side2=>exact Kd.R_nil _ _ _ _ _);(case side3=>exact Kd.C_kept_own (aC.out) (fun k_ hk_ hs_=>(fun e_=>by simp [Value.ownBlock] at e_) hs_));(case side4=>exact (Kd.R_reads' aC.out).2.1);rintro e fF ⟨bZ,rfl,ho0,hb,hkp⟩;refine ⟨_,rfl,?_⟩;have aE:=aM (Kd.R_mono (ok':=fun k_=>True) ho0 (fun k_ hk_=>trivial));replace aA:=aM (blk_kept (bk aA.out) hkp (fun hs_=>(fun e_=>by simp [Value.ownBlock] at e_) hs_));replace aC:=aM (Kd.R_mono (ok':=fun k_=>True) (Kd.R_keptB (aC.out) hkp (fun k_ hk_ hs_=>(fun e_=>by simp [Value.ownBlock] at e_) hs_)) (fun k_ hk_=>trivial));replace HB:=aM (hb);(repeat first|clear hb|clear hkp|clear ho0);have eG:=cA8 aA.out)|((with_reducible refine gC (f:=46) rfl ?_);refine goesL_ (some 39) rfl rfl Tryd.func46 (by kernel_rfl) rfl #[aT] rfl xR ?_;(with_reducible refine (Z79.calls aT bG _ dW.out).mono ?_);rintro e w' ⟨rfl,⟨nd,rfl⟩⟩;refine ⟨_,rfl,?_⟩)|((with_reducible refine gate_builtin (b:=.append) (xs:=#[.tmp 36,.tmp 40]) rfl ?_);at_builtin;refine Kd.R_append (Kd.int .u8) (w0:=w) w.heap.size rfl (.tmp 36) (.tmp 40) 22 5 (.int .u8 0) 1 rfl Tryd.underlying22 info5 rfl (by decide) (by omega) bZ aH bG [.int .u8 bG] (fun _=>True) (fun _=>False) rfl rfl ?aP (fun _ hk=>hk.elim) ?aF ?aO ?aB ?aS ?aL ?_;(case aP=>exact rfl);(case aB=>exact (bl HB.out));(case aF=>exact (fun _ _=>trivial));(case aO=>exact (kr aE.out));(case aS=>exact (below_size (bl HB.out)));(case aL=>have:=LMc26.out;omega);intro eN fG ho hb hg hat;rw [← dB.out] at ho;have aX:=aM (ho);replace aA:=aM (blk_grown (bk aA.out) hg (Kd.R_ne aE.out aA.out (by decide)));replace aC:=aM (Kd.R_over' (kr aC.out) (Kd.R_typed (kr aE.out)) (by decide) hg);replace HB:=aM (hb);clear aE;clear ho hb hg hat;obtain ⟨cN,cO,dV⟩:=Kd.R_slice aX.out;subst dV)|((with_reducible refine gC (f:=47) rfl ?_);refine goesL_ (some 43) rfl rfl Tryd.func47 (by kernel_rfl) rfl #[.slice cN bQ.length cO] rfl xR ?_;(with_reducible refine (Z45.calls k (fun k_=>some k_=(.slice cN bQ.length cO:Value).ownBlock) (.slice cN bQ.length cO) bQ bJ w _ ?side1 ?side2 dX.out).mono ?_);(case side1=>exact bl HB.out);(case side2=>exact Kd.R_tight rfl aX.out);rintro e fH ⟨eO,rfl,ho0,hb,hkp⟩;refine ⟨_,rfl,?_⟩;have dC:=aM (Kd.R_mono (ok':=fun k_=>True) ho0 (fun k_ hk_=>trivial));replace aA:=aM (blk_kept (bk aA.out) hkp (fun hs_=>(fun e_=>(Kd.R_ne aX.out aA.out (by decide)) e_) hs_));replace aC:=aM (Kd.R_mono (ok':=fun k_=>True) (Kd.R_keptB ((Kd.R_apart' aC.out (Kd.R_typed aX.out) (by decide))) hkp (fun k_ hk_ hs_=>(hk_.2) hs_)) (fun k_ hk_=>trivial));replace HB:=aM (hb);clear aX;(repeat first|clear hb|clear hkp|clear ho0)))
 go_ret
 exact ⟨_,xW,kr dC.out,bl HB.out⟩

def Z2.f (a0 a1 a2:Int):Option (Bool):=if a0 ≥ a1 then (some (decide (a0≤a2))) else (some false)
set_option maxHeartbeats 60000000 in
set_option maxRecDepth 100000 in
theorem Z2.calls (a0 a1 a2:Int) (r:Bool) (w:World) (h:Z2.f a0 a1 a2=some r) :
  Calls Tryd.prog 69 #[a0,a1,a2] w fun e w'=>e=.returned (.bool r)∧Drawn0 w w':=by
 have H:(if a0 ≥ a1 then (some (decide (a0≤a2))) else (some false))=some r:=h;clear h
 by_cases c4:a0 ≥ a1
 case pos =>
  rw [if_pos c4] at H
  have aA:=decide_eq_true c4;clear c4;obtain rfl:=Option.some.inj H;go_enter Tryd.func69,Tryd.ntmps69
  go_wp2
  go_ret
  exact ⟨by rfl,by repeat (exact Drawn0.refl _)⟩
 rw [if_neg c4] at H
 have aA:=decide_eq_false c4;clear c4;obtain rfl:=Option.some.inj H;go_enter Tryd.func69,Tryd.ntmps69
 go_wp2
 go_ret
 exact ⟨by rfl,by repeat (exact Drawn0.refl _)⟩

def Z54.f (aA aD aC aE:Int):Option (Bool):=(Z2.f aA 1 9).bind fun aG=>(if aG=true then ((Z2.f aC 1 9).bind fun aH=>(if aH=true then (if aA≤aC then ((Z2.f aD 0 20).bind fun aI=>(if aI=true then (if ((aD == 0) == (aA == aC))=true then ((Z2.f aE 0 3).bind fun aJ=>(some aJ)) else (some false)) else (some false))) else (some false)) else (some false))) else (some false))
set_option maxHeartbeats 60000000 in
set_option maxRecDepth 100000 in
theorem Z54.calls (aA aD aC aG:Int) (r:Bool) (w:World) (h:Z54.f aA aD aC aG=some r) :
  Calls Tryd.prog 70 #[.agg #[aA,aD,aC,aG]] w fun e w'=>e=.returned (.bool r)∧Below w.heap.size w w':=by
 have bQ:=Tryd.underlying25;have HB:=aM (Below.refl w.heap.size w);have H:((Z2.f aA 1 9).bind fun aK=>(if aK=true then ((Z2.f aC 1 9).bind fun aN=>(if aN=true then (if aA≤aC then ((Z2.f aD 0 20).bind fun aQ=>(if aQ=true then (if ((aD == 0) == (aA == aC))=true then ((Z2.f aG 0 3).bind fun aT=>(some aT)) else (some false)) else (some false))) else (some false)) else (some false))) else (some false)))=some r:=h
 clear h;obtain ⟨aK,aW,H⟩:=hB H;have A2:=aM aW;clear aW
 by_cases c3:aK=true
 case neg =>
  replace c3:=Bool.eq_false_iff.mpr c3;subst c3;replace H:=hF H;obtain rfl:=Option.some.inj H;go_enter Tryd.func70,Tryd.ntmps70
  go_wp2_with (first|((with_reducible refine gD (N:=1) rfl ?_);refine bE (N:=1) (cs:=#[aA,aD,aC,aG]) (t:=25) ?_;intro aH hg bU hbox hb;have aE:=aM (hbox);have aI:=gF hg HB;have aJ:=gF hg HB;replace HB:=rS HB hb;clear hb hbox hg;have bK:=cA4 aE.out)|((with_reducible refine gC (f:=69) rfl ?_);refine goesL_ (some 5) rfl rfl Tryd.func69 (by kernel_rfl) rfl #[aA,.int .i64 1,.int .i64 9] rfl xR ?_;(with_reducible refine (Z2.calls aA 1 9 false _ A2.out).mono ?_);rintro e w' ⟨rfl,⟨nd,rfl⟩⟩;refine ⟨_,rfl,?_⟩))
  go_ret
  exact ⟨xW,bl HB.out⟩
 subst c3;replace H:=hP H rfl;obtain ⟨aN,aX,H⟩:=hB H;have A4:=aM aX;clear aX
 by_cases c5:aN=true
 case neg =>
  replace c5:=Bool.eq_false_iff.mpr c5;subst c5;replace H:=hF H;obtain rfl:=Option.some.inj H;go_enter Tryd.func70,Tryd.ntmps70
  go_wp2_with (first|((with_reducible refine gD (N:=1) rfl ?_);refine bE (N:=1) (cs:=#[aA,aD,aC,aG]) (t:=25) ?_;intro aH hg bV hbox hb;have aE:=aM (hbox);have aI:=gF hg HB;have aJ:=gF hg HB;replace HB:=rS HB hb;clear hb hbox hg;have bL:=cA4 aE.out)|((with_reducible refine gC (f:=69) rfl ?_);refine goesL_ (some 5) rfl rfl Tryd.func69 (by kernel_rfl) rfl #[aA,.int .i64 1,.int .i64 9] rfl xR ?_;(with_reducible refine (Z2.calls aA 1 9 true _ A2.out).mono ?_);rintro e w' ⟨rfl,⟨nd,rfl⟩⟩;refine ⟨_,rfl,?_⟩)|(go_at_call 69;(with_reducible refine (Z2.calls aC 1 9 false _ A4.out).mono ?_);rintro e w' ⟨rfl,⟨nd,rfl⟩⟩))
  go_ret
  exact ⟨xW,bl HB.out⟩
 subst c5;replace H:=hP H rfl
 by_cases c6:aA≤aC
 case neg =>
  rw [if_neg c6] at H
  have bD:=decide_eq_false c6;clear c6;obtain rfl:=Option.some.inj H;go_enter Tryd.func70,Tryd.ntmps70
  go_wp2_with (first|((with_reducible refine gD (N:=1) rfl ?_);refine bE (N:=1) (cs:=#[aA,aD,aC,aG]) (t:=25) ?_;intro aH hg bW hbox hb;have aE:=aM (hbox);have aI:=gF hg HB;have aJ:=gF hg HB;replace HB:=rS HB hb;clear hb hbox hg;have bM:=cA4 aE.out)|((with_reducible refine gC (f:=69) rfl ?_);refine goesL_ (some 5) rfl rfl Tryd.func69 (by kernel_rfl) rfl #[aA,.int .i64 1,.int .i64 9] rfl xR ?_;(with_reducible refine (Z2.calls aA 1 9 true _ A2.out).mono ?_);rintro e w' ⟨rfl,⟨nd,rfl⟩⟩;refine ⟨_,rfl,?_⟩)|(go_at_call 69;(with_reducible refine (Z2.calls aC 1 9 true _ A4.out).mono ?_);rintro e w' ⟨rfl,⟨nd,rfl⟩⟩))
  go_ret
  exact ⟨xW,bl HB.out⟩
 rw [if_pos c6] at H
 have bD:=decide_eq_true c6;clear c6;obtain ⟨aQ,bA,H⟩:=hB H;have A7:=aM bA;clear bA
 by_cases c8:aQ=true
 case neg =>
  replace c8:=Bool.eq_false_iff.mpr c8;subst c8;replace H:=hF H;obtain rfl:=Option.some.inj H;go_enter Tryd.func70,Tryd.ntmps70
  go_wp2_with (first|((with_reducible refine gD (N:=1) rfl ?_);refine bE (N:=1) (cs:=#[aA,aD,aC,aG]) (t:=25) ?_;intro aH hg bX hbox hb;have aE:=aM (hbox);have aI:=gF hg HB;have aJ:=gF hg HB;replace HB:=rS HB hb;clear hb hbox hg;have bN:=cA4 aE.out)|((with_reducible refine gC (f:=69) rfl ?_);refine goesL_ (some 5) rfl rfl Tryd.func69 (by kernel_rfl) rfl #[aA,.int .i64 1,.int .i64 9] rfl xR ?_;(with_reducible refine (Z2.calls aA 1 9 true _ A2.out).mono ?_);rintro e w' ⟨rfl,⟨nd,rfl⟩⟩;refine ⟨_,rfl,?_⟩)|(go_at_call 69;(with_reducible refine (Z2.calls aC 1 9 true _ A4.out).mono ?_);rintro e w' ⟨rfl,⟨nd,rfl⟩⟩)|(go_at_call 69;(with_reducible refine (Z2.calls aD 0 20 false _ A7.out).mono ?_);rintro e w' ⟨rfl,⟨nd,rfl⟩⟩))
  go_ret
  exact ⟨xW,bl HB.out⟩
 subst c8;replace H:=hP H rfl
 by_cases c9:((aD == 0) == (aA == aC))=true
 case neg =>
  rw [if_neg c9] at H
  have bG:((aD == 0) == (aA == aC))=false:=by simpa using c9
  (try (have bH:decide ((aD == 0)=(aA == aC))=false:=by simpa using c9))
  (try (have bI:((aD == 0) == (aA == aC))=false:=by simpa using c9))
  (try (have bT:¬ ((aD == 0)=(aA == aC)):=by simpa using c9))
  clear c9;obtain rfl:=Option.some.inj H;go_enter Tryd.func70,Tryd.ntmps70
  go_wp2_with (first|((with_reducible refine gD (N:=1) rfl ?_);refine bE (N:=1) (cs:=#[aA,aD,aC,aG]) (t:=25) ?_;intro aH hg bY hbox hb;have aE:=aM (hbox);have aI:=gF hg HB;have aJ:=gF hg HB;replace HB:=rS HB hb;clear hb hbox hg;have bO:=cA4 aE.out)|((with_reducible refine gC (f:=69) rfl ?_);refine goesL_ (some 5) rfl rfl Tryd.func69 (by kernel_rfl) rfl #[aA,.int .i64 1,.int .i64 9] rfl xR ?_;(with_reducible refine (Z2.calls aA 1 9 true _ A2.out).mono ?_);rintro e w' ⟨rfl,⟨nd,rfl⟩⟩;refine ⟨_,rfl,?_⟩)|(go_at_call 69;(with_reducible refine (Z2.calls aC 1 9 true _ A4.out).mono ?_);rintro e w' ⟨rfl,⟨nd,rfl⟩⟩)|(go_at_call 69;(with_reducible refine (Z2.calls aD 0 20 true _ A7.out).mono ?_);rintro e w' ⟨rfl,⟨nd,rfl⟩⟩))
  go_ret
  exact ⟨xW,bl HB.out⟩
 rw [if_pos c9] at H
 have bG:((aD == 0) == (aA == aC))=true:=c9
 (try (have bH:decide ((aD == 0)=(aA == aC))=true:=by simpa using c9))
 (try (have bI:((aD == 0) == (aA == aC))=true:=by simpa using c9))
 clear c9;obtain ⟨aT,aV,H⟩:=hB H;have bJ:=aM aV;clear aV;obtain rfl:=Option.some.inj H;go_enter Tryd.func70,Tryd.ntmps70
 go_wp2_with (first|((with_reducible refine gD (N:=1) rfl ?_);refine bE (N:=1) (cs:=#[aA,aD,aC,aG]) (t:=25) ?_;intro aH hg bZ hbox hb;have aE:=aM (hbox);have aI:=gF hg HB;have aJ:=gF hg HB;replace HB:=rS HB hb;clear hb hbox hg;have bP:=cA4 aE.out)|((with_reducible refine gC (f:=69) rfl ?_);refine goesL_ (some 5) rfl rfl Tryd.func69 (by kernel_rfl) rfl #[aA,.int .i64 1,.int .i64 9] rfl xR ?_;(with_reducible refine (Z2.calls aA 1 9 true _ A2.out).mono ?_);rintro e w' ⟨rfl,⟨nd,rfl⟩⟩;refine ⟨_,rfl,?_⟩)|(go_at_call 69;(with_reducible refine (Z2.calls aC 1 9 true _ A4.out).mono ?_);rintro e w' ⟨rfl,⟨nd,rfl⟩⟩)|(go_at_call 69;(with_reducible refine (Z2.calls aD 0 20 true _ A7.out).mono ?_);rintro e w' ⟨rfl,⟨nd,rfl⟩⟩)|(go_at_call 69;(with_reducible refine (Z2.calls aG 0 3 aT _ bJ.out).mono ?_);rintro e w' ⟨rfl,⟨nd,rfl⟩⟩))
 go_ret
 exact ⟨xW,bl HB.out⟩

def Z63.f (aA aC aD aE aG aH aI:Int) (aJ:Bool):Option (Bool):=if aA=1 then ((Z2.f aC 0 3).bind fun aK=>(if aK=true then ((Z54.f aD aE aG aH).bind fun aN=>(if aN=true then ((Z2.f aI 0 8).bind fun aQ=>(if aQ=true then (some (!aJ)) else (some false))) else (some false))) else (some false))) else (if aA=3 then ((Z2.f aC 0 3).bind fun aT=>(if aT=true then (if (aD == 0 && (aE == 0 && (aG == 0 && (aH == 0))))=true then (some (aI == 0)) else (some false)) else (some false))) else (if aA=2 then (some (aA == 2 && (aC == 0 && ((aD == 0 && (aE == 0 && (aG == 0 && (aH == 0)))) && (aI == 0 && (!aJ)))))) else (some false)))
set_option maxHeartbeats 60000000 in
set_option maxRecDepth 100000 in
theorem Z63.calls (aC aD aE aG aH aI aJ:Int) (aK r:Bool) (w:World) (h:Z63.f aC aD aE aG aH aI aJ aK=some r) :
  Calls Tryd.prog 25 #[.agg #[aC,aD,aE,aG,aH,aI,aJ,aK]] w fun e w'=>e=.returned (.bool r)∧Below w.heap.size w w':=by
 have cQ:=Tryd.underlying27;have cR:=Tryd.underlying25;have HB:=aM (Below.refl w.heap.size w);have H:(if aC=1 then ((Z2.f aD 0 3).bind fun bA=>(if bA=true then ((Z54.f aE aG aH aI).bind fun bD=>(if bD=true then ((Z2.f aJ 0 8).bind fun bG=>(if bG=true then (some (!aK)) else (some false))) else (some false))) else (some false))) else (if aC=3 then ((Z2.f aD 0 3).bind fun bH=>(if bH=true then (if (aE == 0 && (aG == 0 && (aH == 0 && (aI == 0))))=true then (some (aJ == 0)) else (some false)) else (some false))) else (if aC=2 then (some (aC == 2 && (aD == 0 && ((aE == 0 && (aG == 0 && (aH == 0 && (aI == 0)))) && (aJ == 0 && (!aK)))))) else (some false))))=some r:=h
 clear h
 by_cases c2:aC=1
 case neg =>
  rw [if_neg c2] at H
  have bX:(aC == 1)=false:=beq_eq_false_iff_ne.mpr c2;have bY:(aC != 1)=true:=bne_iff_ne.mpr c2
  by_cases aW:aC=3
  case neg =>
   rw [if_neg aW] at H
   have bL:(aC == 3)=false:=beq_eq_false_iff_ne.mpr aW;have bM:(aC != 3)=true:=bne_iff_ne.mpr aW
   by_cases aX:aC=2
   case neg =>
    rw [if_neg aX] at H
    have bN:(aC == 2)=false:=beq_eq_false_iff_ne.mpr aX;have bO:(aC != 2)=true:=bne_iff_ne.mpr aX;obtain rfl:=Option.some.inj H;go_enter Tryd.func25,Tryd.ntmps25
    go_wp2_with (((with_reducible refine gD (N:=1) rfl ?_);refine bE (N:=1) (cs:=#[aC,aD,aE,aG,aH,aI,aJ,aK]) (t:=27) ?_;intro aN hg cS hbox hb;have aA:=aM (hbox);have aQ:=gF hg HB;have aT:=gF hg HB;replace HB:=rS HB hb;clear hb hbox hg;have bZ:=cA8 aA.out))
    go_ret
    exact ⟨xW,bl HB.out⟩
   rw [if_pos aX] at H
   have bN:(aC == 2)=true:=beq_iff_eq.mpr aX;have bO:(aC != 2)=false:=bne_eq_false_iff_eq.mpr aX;clear aX;obtain rfl:=Option.some.inj H;go_enter Tryd.func25,Tryd.ntmps25
   go_wp2_with (((with_reducible refine gD (N:=1) rfl ?_);refine bE (N:=1) (cs:=#[aC,aD,aE,aG,aH,aI,aJ,aK]) (t:=27) ?_;intro aN hg cT hbox hb;have aA:=aM (hbox);have aQ:=gF hg HB;have aT:=gF hg HB;replace HB:=rS HB hb;clear hb hbox hg;have cA:=cA8 aA.out))
   go_ret
   exact ⟨xW,bl HB.out⟩
  rw [if_pos aW] at H
  have bL:(aC == 3)=true:=beq_iff_eq.mpr aW;have bM:(aC != 3)=false:=bne_eq_false_iff_eq.mpr aW;clear aW;obtain ⟨bH,bJ,H⟩:=hB H;have bK:=aM bJ;clear bJ
  by_cases bI:bH=true
  case neg =>
   replace bI:=Bool.eq_false_iff.mpr bI;subst bI;replace H:=hF H;obtain rfl:=Option.some.inj H;go_enter Tryd.func25,Tryd.ntmps25
   go_wp2_with (first|((with_reducible refine gD (N:=1) rfl ?_);refine bE (N:=1) (cs:=#[aC,aD,aE,aG,aH,aI,aJ,aK]) (t:=27) ?_;intro aN hg cU hbox hb;have aA:=aM (hbox);have aQ:=gF hg HB;have aT:=gF hg HB;replace HB:=rS HB hb;clear hb hbox hg;have cC:=cA8 aA.out)|((with_reducible refine gC (f:=69) rfl ?_);refine goesL_ (some 29) rfl rfl Tryd.func69 (by kernel_rfl) rfl #[aD,.int .i64 0,.int .i64 3] rfl xR ?_;(with_reducible refine (Z2.calls aD 0 3 false _ bK.out).mono ?_);rintro e w' ⟨rfl,⟨nd,rfl⟩⟩;refine ⟨_,rfl,?_⟩))
   go_ret
   exact ⟨xW,bl HB.out⟩
  subst bI;replace H:=hP H rfl
  by_cases aV:(aE == 0 && (aG == 0 && (aH == 0 && (aI == 0))))=true
  case pos =>
   rw [if_pos aV] at H
   have bP:(aE == 0 && (aG == 0 && (aH == 0 && (aI == 0))))=true:=aV
   (try (have bQ:decide (aE=0 && (aG == 0 && (aH == 0 && (aI == 0))))=true:=by simpa using aV))
   (try (have bT:(aE == 0 && (aG == 0 && (aH == 0 && (aI == 0))))=true:=by simpa using aV))
   clear aV;obtain rfl:=Option.some.inj H;go_enter Tryd.func25,Tryd.ntmps25
   go_wp2_with (first|((with_reducible refine gD (N:=1) rfl ?_);refine bE (N:=1) (cs:=#[aC,aD,aE,aG,aH,aI,aJ,aK]) (t:=27) ?_;intro aN hg cV hbox hb;have aA:=aM (hbox);have aQ:=gF hg HB;have aT:=gF hg HB;replace HB:=rS HB hb;clear hb hbox hg;have cD:=cA8 aA.out)|((with_reducible refine gC (f:=69) rfl ?_);refine goesL_ (some 29) rfl rfl Tryd.func69 (by kernel_rfl) rfl #[aD,.int .i64 0,.int .i64 3] rfl xR ?_;(with_reducible refine (Z2.calls aD 0 3 true _ bK.out).mono ?_);rintro e w' ⟨rfl,⟨nd,rfl⟩⟩;refine ⟨_,rfl,?_⟩))
   go_ret
   exact ⟨xW,bl HB.out⟩
  rw [if_neg aV] at H
  have bP:(aE == 0 && (aG == 0 && (aH == 0 && (aI == 0))))=false:=by simpa using aV
  (try (have bQ:decide (aE=0 && (aG == 0 && (aH == 0 && (aI == 0))))=false:=by simpa using aV))
  (try (have bT:(aE == 0 && (aG == 0 && (aH == 0 && (aI == 0))))=false:=by simpa using aV))
  (try (have cE:¬ (aE=0 && (aG == 0 && (aH == 0 && (aI == 0)))):=by simpa using aV))
  clear aV;obtain rfl:=Option.some.inj H;go_enter Tryd.func25,Tryd.ntmps25
  go_wp2_with (first|((with_reducible refine gD (N:=1) rfl ?_);refine bE (N:=1) (cs:=#[aC,aD,aE,aG,aH,aI,aJ,aK]) (t:=27) ?_;intro aN hg cW hbox hb;have aA:=aM (hbox);have aQ:=gF hg HB;have aT:=gF hg HB;replace HB:=rS HB hb;clear hb hbox hg;have cG:=cA8 aA.out)|((with_reducible refine gC (f:=69) rfl ?_);refine goesL_ (some 29) rfl rfl Tryd.func69 (by kernel_rfl) rfl #[aD,.int .i64 0,.int .i64 3] rfl xR ?_;(with_reducible refine (Z2.calls aD 0 3 true _ bK.out).mono ?_);rintro e w' ⟨rfl,⟨nd,rfl⟩⟩;refine ⟨_,rfl,?_⟩))
  go_ret
  exact ⟨xW,bl HB.out⟩
 rw [if_pos c2] at H
 have bX:(aC == 1)=true:=beq_iff_eq.mpr c2;have bY:(aC != 1)=false:=bne_eq_false_iff_eq.mpr c2;clear c2;obtain ⟨bA,bU,H⟩:=hB H;have A3:=aM bU;clear bU
 by_cases c4:bA=true
 case neg =>
  replace c4:=Bool.eq_false_iff.mpr c4;subst c4;replace H:=hF H;obtain rfl:=Option.some.inj H;go_enter Tryd.func25,Tryd.ntmps25
  go_wp2_with (first|((with_reducible refine gD (N:=1) rfl ?_);refine bE (N:=1) (cs:=#[aC,aD,aE,aG,aH,aI,aJ,aK]) (t:=27) ?_;intro aN hg cX hbox hb;have aA:=aM (hbox);have aQ:=gF hg HB;have aT:=gF hg HB;replace HB:=rS HB hb;clear hb hbox hg;have cH:=cA8 aA.out)|((with_reducible refine gC (f:=69) rfl ?_);refine goesL_ (some 9) rfl rfl Tryd.func69 (by kernel_rfl) rfl #[aD,.int .i64 0,.int .i64 3] rfl xR ?_;(with_reducible refine (Z2.calls aD 0 3 false _ A3.out).mono ?_);rintro e w' ⟨rfl,⟨nd,rfl⟩⟩;refine ⟨_,rfl,?_⟩))
  go_ret
  exact ⟨xW,bl HB.out⟩
 subst c4;replace H:=hP H rfl;obtain ⟨bD,bV,H⟩:=hB H;have A5:=aM bV;clear bV
 by_cases c6:bD=true
 case neg =>
  replace c6:=Bool.eq_false_iff.mpr c6;subst c6;replace H:=hF H;obtain rfl:=Option.some.inj H;go_enter Tryd.func25,Tryd.ntmps25
  go_wp2_with (first|((with_reducible refine gD (N:=1) rfl ?_);refine bE (N:=1) (cs:=#[aC,aD,aE,aG,aH,aI,aJ,aK]) (t:=27) ?_;intro aN hg cY hbox hb;have aA:=aM (hbox);have aQ:=gF hg HB;have aT:=gF hg HB;replace HB:=rS HB hb;clear hb hbox hg;have cK:=cA8 aA.out)|((with_reducible refine gC (f:=69) rfl ?_);refine goesL_ (some 9) rfl rfl Tryd.func69 (by kernel_rfl) rfl #[aD,.int .i64 0,.int .i64 3] rfl xR ?_;(with_reducible refine (Z2.calls aD 0 3 true _ A3.out).mono ?_);rintro e w' ⟨rfl,⟨nd,rfl⟩⟩;refine ⟨_,rfl,?_⟩)|(go_at_call 70;(with_reducible refine (Z54.calls aE aG aH aI false _ A5.out).mono ?_);rintro e dA ⟨rfl,hb⟩;replace aA:=rB aA hb;replace HB:=rS HB hb;(try clear hb)))
  go_ret
  exact ⟨xW,bl HB.out⟩
 subst c6;replace H:=hP H rfl;obtain ⟨bG,bW,H⟩:=hB H;have A7:=aM bW;clear bW
 by_cases c8:bG=true
 case pos =>
  subst c8;replace H:=hP H rfl;obtain rfl:=Option.some.inj H;go_enter Tryd.func25,Tryd.ntmps25
  go_wp2_with (first|((with_reducible refine gD (N:=1) rfl ?_);refine bE (N:=1) (cs:=#[aC,aD,aE,aG,aH,aI,aJ,aK]) (t:=27) ?_;intro aN hg w9 hbox hb;have aA:=aM (hbox);have aQ:=gF hg HB;have aT:=gF hg HB;replace HB:=rS HB hb;clear hb hbox hg;have cL:=cA8 aA.out)|((with_reducible refine gC (f:=69) rfl ?_);refine goesL_ (some 9) rfl rfl Tryd.func69 (by kernel_rfl) rfl #[aD,.int .i64 0,.int .i64 3] rfl xR ?_;(with_reducible refine (Z2.calls aD 0 3 true _ A3.out).mono ?_);rintro e w' ⟨rfl,⟨nd,rfl⟩⟩;refine ⟨_,rfl,?_⟩)|(go_at_call 70;(with_reducible refine (Z54.calls aE aG aH aI true _ A5.out).mono ?_);rintro e dB ⟨rfl,hb⟩;replace aA:=rB aA hb;replace HB:=rS HB hb;(try clear hb);have cN:=cA8 aA.out)|(go_at_call 69;(with_reducible refine (Z2.calls aJ 0 8 true _ A7.out).mono ?_);rintro e w' ⟨rfl,⟨nd,rfl⟩⟩))
  go_ret
  exact ⟨xW,bl HB.out⟩
 replace c8:=Bool.eq_false_iff.mpr c8;subst c8;replace H:=hF H;obtain rfl:=Option.some.inj H;go_enter Tryd.func25,Tryd.ntmps25
 go_wp2_with (first|((with_reducible refine gD (N:=1) rfl ?_);refine bE (N:=1) (cs:=#[aC,aD,aE,aG,aH,aI,aJ,aK]) (t:=27) ?_;intro aN hg dC hbox hb;have aA:=aM (hbox);have aQ:=gF hg HB;have aT:=gF hg HB;replace HB:=rS HB hb;clear hb hbox hg;have cO:=cA8 aA.out)|((with_reducible refine gC (f:=69) rfl ?_);refine goesL_ (some 9) rfl rfl Tryd.func69 (by kernel_rfl) rfl #[aD,.int .i64 0,.int .i64 3] rfl xR ?_;(with_reducible refine (Z2.calls aD 0 3 true _ A3.out).mono ?_);rintro e w' ⟨rfl,⟨nd,rfl⟩⟩;refine ⟨_,rfl,?_⟩)|(go_at_call 70;(with_reducible refine (Z54.calls aE aG aH aI true _ A5.out).mono ?_);rintro e dD ⟨rfl,hb⟩;replace aA:=rB aA hb;replace HB:=rS HB hb;(try clear hb);have cP:=cA8 aA.out)|(go_at_call 69;(with_reducible refine (Z2.calls aJ 0 8 false _ A7.out).mono ?_);rintro e w' ⟨rfl,⟨nd,rfl⟩⟩))
 go_ret
 exact ⟨xW,bl HB.out⟩

def Z24.l0:Nat→List Int→Int→Int→Int→Option (Int)
 | 0,_,_,_,_=>none
 | k+1,x0,x3,x4,x5=>if x5<(x0.length:Int) then (if 0≤x5 then (Z24.l0 k x0 (Int.tmod (wrap64 (x3+(wrap64 (rd x0 x5)))) 65521) (Int.tmod (wrap64 (x4+(Int.tmod (wrap64 (x3+(wrap64 (rd x0 x5)))) 65521))) 65521) (wrap64 (x5+1))) else (none)) else (some (wrap64 ((wrap64 (x4*65536))+x3)))
def Z24.f (k:Nat) (l0:List Int):Option (Int):=Z24.l0 k l0 1 0 0
theorem Z24.mono_l:∀ k,(∀ y0 y1 y2 y3,LeO (Z24.l0 k y0 y1 y2 y3) (Z24.l0 (k+1) y0 y1 y2 y3))
 | 0=>fun _ _ _ _ r h=>by simp [Z24.l0] at h
 | k+1=>by
  have ih0:=Z24.mono_l k
  ·intro y0 y1 y2 y3
   unfold Z24.l0
   repeat' (with_reducible first|apply ih0|exact lR _|refine lI ?_ ?_)
theorem Z24.mono:∀ a0 k,LeO (Z24.f k a0) (Z24.f (k+1) a0):=by
 intro a0 k;have ih0:=Z24.mono_l k;unfold Z24.f
 repeat' (with_reducible apply ih0)
set_option maxHeartbeats 60000000 in
set_option maxRecDepth 100000 in
theorem Z24.calls (k:Nat) (A0:Option Addr) (c0:Nat) (l0:List Int) (r:Int) (w:World) (hr0:Kd.C (Kd.int .u8) w A0 l0.length l0) (hc0:l0.length≤c0) (h:Z24.f k l0=some r) :
  Calls Tryd.prog 37 #[.slice A0 l0.length c0] w fun e w'=>e=.returned (.int .i64 r)∧Drawn0 w w':=by
 have aN:=aM hr0;have aV:=aM hc0;clear hr0 hc0;have H:(Z24.l0 k l0 1 0 0)=some r:=h;clear h;have H':=aM H;clear H;go_enter Tryd.func37,Tryd.ntmps37
 go_wp2
 go_loopg [3,4,5] k (fun kq v3 v4 v5 w'=>∃ (aC:Int) (aD:Int) (aA:Int),v3=.int .i64 aC∧v4=.int .i64 aD∧v5=.int .i64 aA∧Aside0 (Z24.l0 kq l0 aC aD aA=some r)∧Aside0 (kq≤k)∧Drawn0 w w')
 case atStart=>exact ⟨(1),(0),(0),xE,xE,xE,H',⟨Nat.le_refl _⟩,by repeat (exact Drawn0.refl _)⟩
 case round =>
  clear H';obtain ⟨aC,aD,aA,rfl,rfl,rfl,HA,aH,⟨m1,rfl⟩⟩:=hrel;cases gk with
  | zero=>exact absurd HA.out (by simp [Z24.l0])
  | succ k1 =>
   have H:=HA.out;clear HA;simp only [Z24.l0] at H
   by_cases c2:aA<(l0.length:Int)
   case neg =>
    rw [if_neg c2] at H
    have aI:=decide_eq_false c2;clear c2;obtain rfl:=Option.some.inj H;go_wp2
    go_ret
    exact ⟨by rfl,by repeat (first|exact Drawn0.refl _|apply Drawn0.step)⟩
   rw [if_pos c2] at H
   have aI:=decide_eq_true c2;clear c2;obtain ⟨aT,H⟩:=gI H;have H':=aM H;clear H;have aE:0≤(aA:Int):=dT;have aG:aA<(l0.length:Int):=dT;obtain ⟨aQ,aJ,aK⟩:=Kd.at_int aN.out aA aE aG;cases aJ
   replace aE:=eq_true aE;replace aG:=eq_true aG;go_wp2
   go_roundg k1
   case measure=>have:=aH.out;omega
   case rel=>exact ⟨(Int.tmod (wrap64 (aC+(wrap64 (rd l0 aA)))) 65521),(Int.tmod (wrap64 (aD+(Int.tmod (wrap64 (aC+(wrap64 (rd l0 aA)))) 65521))) 65521),(wS aA),xE,xE,xE,H',⟨by have:=aH.out;omega⟩,by repeat (first|exact Drawn0.refl _|apply Drawn0.step)⟩

def Z29.l0:Nat→Int→List Int→Option (List Int)
 | 0,_,_=>none
 | k+1,x0,x3=>if x0 > 127 then (if x3.length<140737488355328 then (Z29.l0 k (wrap64 (Int.tdiv x0 128)) (x3++[(wrap64 ((Int.tmod x0 128)+128)) % 256])) else (none)) else (if x3.length<140737488355328 then (some (x3++[(x0) % 256])) else (none))
def Z29.f (k:Nat) (a0:Int):Option (List Int):=(some (([]:List Int):List Int)).bind fun aA=>((Z2.f a0 0 2147483647).bind fun aC=>(if aC=true then (Z29.l0 k a0 aA) else (some aA)))
theorem Z29.mono_l:∀ k,(∀ y0 y1,LeO (Z29.l0 k y0 y1) (Z29.l0 (k+1) y0 y1))
 | 0=>fun _ _ r h=>by simp [Z29.l0] at h
 | k+1=>by
  have ih0:=Z29.mono_l k
  ·intro y0 y1
   unfold Z29.l0
   repeat' (with_reducible first|apply ih0|exact lR _|refine lI ?_ ?_)
theorem Z29.mono:∀ a0 k,LeO (Z29.f k a0) (Z29.f (k+1) a0):=by
 intro a0 k;have ih0:=Z29.mono_l k;unfold Z29.f
 repeat' (with_reducible first|apply ih0|exact lR _|refine lI ?_ ?_|refine lB ?_ fun _=>?_)
set_option maxHeartbeats 60000000 in
set_option maxRecDepth 100000 in
theorem Z29.calls (k:Nat) (a0:Int) (r:List Int) (w:World) (h:Z29.f k a0=some r) :
  Calls Tryd.prog 33 #[a0] w fun e w'=>∃ bA:Value,e=.returned (bA)∧Kd.R (Kd.int .u8) 5 w' w.heap.size (fun _=>True) bA r∧Below w.heap.size w w':=by
 have HB:=aM (Below.refl w.heap.size w);have H:((some (([]:List Int):List Int)).bind fun aH=>((Z2.f a0 0 2147483647).bind fun aK=>(if aK=true then (Z29.l0 k a0 aH) else (some aH))))=some r:=h
 clear h;obtain ⟨aH,aN,H⟩:=hS H;have aG:=aM aN;clear aN;obtain ⟨aK,bD,H⟩:=hB H;have A2:=aM bD;clear bD
 by_cases c3:aK=true
 case neg =>
  replace c3:=Bool.eq_false_iff.mpr c3;subst c3;replace H:=hF H;obtain rfl:=Option.some.inj H;go_enter Tryd.func33,Tryd.ntmps33
  go_wp2_with (first|((with_reducible refine gD (N:=4) rfl ?_);refine Kd.R_lit (Kd.int .u8) _ 5 ?hg (N:=4) ?hd (xs:=([]:List Int)) (inner:=[]) (ok:=fun _=>True) (okp:=fun _=>True) ?hr ?hp (fun _ hk=>hk) trivial (Below.refl _ _) (Nat.le_refl _) (by simp) ?_;(case hd=>rfl);(case hg=>rfl);(case hr=>(go_simp;done));(case hp=>exact (Reps.none _ _));intro bH bM ho12 hb hg_ hnew_;clear hg_ hnew_;(rw [← aG.out] at ho12);have aI:=aM (Kd.R_lower ho12 (below_size (bl HB.out)));replace HB:=rS HB hb;clear hb ho12)|((with_reducible refine gC (f:=69) rfl ?_);refine goesL_ (some 6) rfl rfl Tryd.func69 (by kernel_rfl) rfl #[a0,.int .i64 0,.int .i64 2147483647] rfl xR ?_;(with_reducible refine (Z2.calls a0 0 2147483647 false _ A2.out).mono ?_);rintro e w' ⟨rfl,⟨nd,rfl⟩⟩;refine ⟨_,rfl,?_⟩))
  go_ret
  exact ⟨_,xW,kr aI.out,bl HB.out⟩
 subst c3;replace H:=hP H rfl;have H':=aM H;clear H;go_enter Tryd.func33,Tryd.ntmps33
 go_wp2_with (first|((with_reducible refine gD (N:=4) rfl ?_);refine Kd.R_lit (Kd.int .u8) _ 5 ?hg (N:=4) ?hd (xs:=([]:List Int)) (inner:=[]) (ok:=fun _=>True) (okp:=fun _=>True) ?hr ?hp (fun _ hk=>hk) trivial (Below.refl _ _) (Nat.le_refl _) (by simp) ?_;(case hd=>rfl);(case hg=>rfl);(case hr=>(go_simp;done));(case hp=>exact (Reps.none _ _));intro bH w4 ho5 hb hg_ hnew_;clear hg_ hnew_;(rw [← aG.out] at ho5);have aI:=aM (Kd.R_lower ho5 (below_size (bl HB.out)));replace HB:=rS HB hb;clear hb ho5)|((with_reducible refine gC (f:=69) rfl ?_);refine goesL_ (some 6) rfl rfl Tryd.func69 (by kernel_rfl) rfl #[a0,.int .i64 0,.int .i64 2147483647] rfl xR ?_;(with_reducible refine (Z2.calls a0 0 2147483647 true _ A2.out).mono ?_);rintro e w' ⟨rfl,⟨nd,rfl⟩⟩;refine ⟨_,rfl,?_⟩))
 go_loopg [0,3] k (fun kq v0 v3 w'=>∃ (aA:Int) (aC:List Int),v0=.int .i64 aA∧Aside0 (Z29.l0 kq aA aC=some r)∧Aside0 (kq≤k)∧Aside0 (Kd.R (Kd.int .u8) 5 w' w.heap.size (fun _=>True) v3 aC)∧Aside0 (Below w.heap.size w w'))
 case atStart=>exact ⟨(a0),(aH),xE,H',⟨Nat.le_refl _⟩,⟨kr aI.out⟩,⟨bl HB.out⟩⟩
 case round =>
  clear H'
  repeat first|clear p2|clear c3
  obtain ⟨aA,aC,rfl,HA,bG,aJ,HB⟩:=hrel;cases gk with
  | zero=>exact absurd HA.out (by simp [Z29.l0])
  | succ k1 =>
   have H:=HA.out;clear HA;simp only [Z29.l0] at H
   by_cases c6:aA > 127
   case neg =>
    rw [if_neg c6] at H
    have bI:=decide_eq_false c6;clear c6
    by_cases c9:aC.length<140737488355328
    case neg =>
     rw [if_neg c9] at H
     exact absurd H (by simp)
    rw [if_pos c9] at H
    have LMc9:=aM c9;clear c9;obtain ⟨bJ,aD⟩:∃ y_:List Int,y_=(aC++[(aA) % 256]):=⟨_,rfl⟩;replace H:(some bJ)=some r:=by (rw [aD];with_reducible exact H)
    have aT:=aM aD;clear aD;obtain rfl:=Option.some.inj H;go_wp2_with (((with_reducible refine gate_builtin (b:=.append) (xs:=#[.tmp 20,.tmp 23]) rfl ?_);at_builtin;refine Kd.R_append (Kd.int .u8) (w0:=w) w.heap.size rfl (.tmp 20) (.tmp 23) 22 5 (.int .u8 0) 1 rfl Tryd.underlying22 info5 rfl (by decide) (by omega) u3 aC ((aA) % 256) [.int .u8 ((aA) % 256)] (fun _=>True) (fun _=>False) rfl rfl ?aP (fun _ hk=>hk.elim) ?aF ?aO ?aB ?aS ?aL ?_;(case aP=>exact rfl);(case aB=>exact (bl HB.out));(case aF=>exact (fun _ _=>trivial));(case aO=>exact (kr aJ.out));(case aS=>exact (below_size (bl HB.out)));(case aL=>have:=LMc9.out;omega);intro bK bN ho hb hg hat;rw [← aT.out] at ho;have aV:=aM (ho);replace HB:=aM (hb);clear aJ;clear ho hb hg hat))
    go_ret
    exact ⟨_,xW,kr aV.out,bl HB.out⟩
   rw [if_pos c6] at H
   have bI:=decide_eq_true c6;clear c6
   by_cases c7:aC.length<140737488355328
   case neg =>
    rw [if_neg c7] at H
    exact absurd H (by simp)
   rw [if_pos c7] at H
   have LMc7:=aM c7;clear c7;obtain ⟨aQ,aE⟩:∃ y_:List Int,y_=(aC++[(wrap64 ((Int.tmod aA 128)+128)) % 256]):=⟨_,rfl⟩;replace H:(Z29.l0 k1 (wrap64 (Int.tdiv aA 128)) aQ)=some r:=by (rw [aE];with_reducible exact H)
   have aW:=aM aE;clear aE;have H':=aM H;clear H;go_wp2_with (((with_reducible refine gate_builtin (b:=.append) (xs:=#[.tmp 11,.tmp 16]) rfl ?_);at_builtin;refine Kd.R_append (Kd.int .u8) (w0:=w) w.heap.size rfl (.tmp 11) (.tmp 16) 22 5 (.int .u8 0) 1 rfl Tryd.underlying22 info5 rfl (by decide) (by omega) u3 aC ((wrap64 ((Int.tmod aA 128)+128)) % 256) [.int .u8 ((wrap64 ((Int.tmod aA 128)+128)) % 256)] (fun _=>True) (fun _=>False) rfl rfl ?aP (fun _ hk=>hk.elim) ?aF ?aO ?aB ?aS ?aL ?_;(case aP=>exact rfl);(case aB=>exact (bl HB.out));(case aF=>exact (fun _ _=>trivial));(case aO=>exact (kr aJ.out));(case aS=>exact (below_size (bl HB.out)));(case aL=>have:=LMc7.out;omega);intro bL w8 ho hb hg hat;rw [← aW.out] at ho;have aX:=aM (ho);replace HB:=aM (hb);clear aJ;clear ho hb hg hat))
   go_roundg k1
   case measure=>have:=bG.out;omega
   case rel=>exact ⟨(wrap64 (Int.tdiv aA 128)),(aQ),xE,H',⟨by have:=bG.out;omega⟩,⟨kr aX.out⟩,⟨bl HB.out⟩⟩

def Z19.l0:Nat→List Int→List Int→Int→Option (List Int)
 | 0,_,_,_=>none
 | k+1,x0,x3,x4=>if x4<(x0.length:Int) then (if 0≤x4 then ((Z29.f k (rd x0 x4)).bind fun aA=>(if x3.length+aA.length<140737488355328 then (Z19.l0 k x0 (x3++aA) (wrap64 (x4+1))) else (none))) else (none)) else (some x3)
def Z19.f (k:Nat) (l0:List Int):Option (List Int):=Z19.l0 k l0 (([]:List Int)) 0
theorem Z19.mono_l:∀ k,(∀ y0 y1 y2,LeO (Z19.l0 k y0 y1 y2) (Z19.l0 (k+1) y0 y1 y2))
 | 0=>fun _ _ _ r h=>by simp [Z19.l0] at h
 | k+1=>by
  have ih0:=Z19.mono_l k
  ·intro y0 y1 y2
   unfold Z19.l0
   repeat' (with_reducible first|apply ih0|apply Z29.mono|exact lR _|refine lI ?_ ?_|refine lB ?_ fun _=>?_)
theorem Z19.mono:∀ a0 k,LeO (Z19.f k a0) (Z19.f (k+1) a0):=by
 intro a0 k;have ih0:=Z19.mono_l k;unfold Z19.f
 repeat' (with_reducible apply ih0)
set_option maxHeartbeats 60000000 in
set_option maxRecDepth 100000 in
theorem Z19.calls (k:Nat) (A0:Option Addr) (c0:Nat) (l0:List Int) (r:List Int) (w:World) (hr0:Kd.C (Kd.int .i64) w A0 l0.length l0) (hc0:l0.length≤c0) (h:Z19.f k l0=some r) :
  Calls Tryd.prog 61 #[.slice A0 l0.length c0] w fun e w'=>∃ bD:Value,e=.returned (bD)∧Kd.R (Kd.int .u8) 5 w' w.heap.size (fun _=>True) bD r∧Below w.heap.size w w':=by
 have bN:=aM hr0;have bV:=aM hc0;clear hr0 hc0;have HB:=aM (Below.refl w.heap.size w);have H:(Z19.l0 k l0 (([]:List Int)) 0)=some r:=h;clear h;obtain ⟨aT,aC⟩:∃ y_:List Int,y_=(([]:List Int)):=⟨_,rfl⟩;replace H:(Z19.l0 k l0 aT 0)=some r:=by (rw [aC];with_reducible exact H)
 have aQ:=aM aC;clear aC;have H':=aM H;clear H;go_enter Tryd.func61,Tryd.ntmps61
 go_wp2_with (((with_reducible refine gD (N:=5) rfl ?_);refine Kd.R_lit (Kd.int .u8) _ 5 ?hg (N:=5) ?hd (xs:=([]:List Int)) (inner:=[]) (ok:=fun _=>True) (okp:=fun _=>True) ?hr ?hp (fun _ hk=>hk) trivial (Below.refl _ _) (Nat.le_refl _) (by simp) ?_;(case hd=>rfl);(case hg=>rfl);(case hr=>(go_simp;done));(case hp=>exact (Reps.none _ _));intro bP w2 ho3 hb hg_ hnew_;clear hg_ hnew_;(rw [← aQ.out] at ho3);have aW:=aM (Kd.R_lower ho3 (below_size (bl HB.out)));replace HB:=rS HB hb;clear hb ho3))
 go_loopg [3,4] k (fun kq v3 v4 w'=>∃ (aG:List Int) (aA:Int),v4=.int .i64 aA∧Aside0 (Z19.l0 kq l0 aG aA=some r)∧Aside0 (kq≤k)∧Aside0 (Kd.R (Kd.int .u8) 5 w' w.heap.size (fun _=>True) v3 aG)∧Aside0 (Below w.heap.size w w'))
 case atStart=>exact ⟨(aT),(0),xE,H',⟨Nat.le_refl _⟩,⟨kr aW.out⟩,⟨bl HB.out⟩⟩
 case round =>
  clear H'
  obtain ⟨aG,aA,rfl,HA,bG,aH,HB⟩:=hrel;cases gk with
  | zero=>exact absurd HA.out (by simp [Z19.l0])
  | succ k1 =>
   have H:=HA.out;clear HA;simp only [Z19.l0] at H
   by_cases c4:aA<(l0.length:Int)
   case neg =>
    rw [if_neg c4] at H
    have bI:=decide_eq_false c4;clear c4;obtain rfl:=Option.some.inj H;go_wp2
    go_ret
    exact ⟨_,xW,kr aH.out,bl HB.out⟩
   rw [if_pos c4] at H
   have bI:=decide_eq_true c4;clear c4;obtain ⟨bQ,H⟩:=gI H;obtain ⟨aI,bH,H⟩:=hB H;have A6:=aM bH;clear bH
   by_cases c7:aG.length+aI.length<140737488355328
   case neg =>
    rw [if_neg c7] at H
    exact absurd H (by simp)
   rw [if_pos c7] at H
   have LMc7:=aM c7;clear c7;obtain ⟨aV,aD⟩:∃ y_:List Int,y_=(aG++aI):=⟨_,rfl⟩;replace H:(Z19.l0 k1 l0 aV (wS aA))=some r:=by (rw [aD];with_reducible exact H)
   have aX:=aM aD;clear aD;have H':=aM H;clear H;have aK:0≤(aA:Int):=dT;have aN:aA<(l0.length:Int):=dT;obtain ⟨bO,bJ,aJ⟩:=Kd.at_int bN.out aA aK aN;cases bJ
   replace aJ:=xB HB aJ;replace aK:=eq_true aK;replace aN:=eq_true aN;go_wp2_with (first|((with_reducible refine gC (f:=33) rfl ?_);refine goesL_ (some 17) rfl rfl Tryd.func33 (by kernel_rfl) rfl #[.int .i64 (rd l0 aA)] rfl xR ?_;(with_reducible refine (Z29.calls k1 (rd l0 aA) aI _ A6.out).mono ?_);rintro e w8 ⟨bT,rfl,ho0,hb⟩;refine ⟨_,rfl,?_⟩;have aE:=aM (Kd.R_lower (Kd.R_new' ho0 (Kd.R_lt (kr aH.out))) (below_size (bl HB.out)));replace aH:=aM (Kd.R_elder' (kr aH.out) (Kd.R_base ho0) hb);replace HB:=rS HB hb;(repeat first|clear hb|clear ho0);obtain ⟨bK,bL,bM⟩:=Kd.R_slice aE.out;subst bM)|((with_reducible refine gate_builtin (b:=.append) (xs:=#[.tmp 12,.tmp 17]) rfl ?_);at_builtin;refine Kd.R_append_rows (Kd.int .u8) (w0:=w) w.heap.size rfl (.tmp 12) (.tmp 17) 22 5 (.int .u8 0) 1 rfl Tryd.underlying22 info5 rfl (by decide) (by omega) u3 aG aI _ _ _ (fun k_=>some k_≠(.slice bK aI.length bL:Value).ownBlock) (fun _=>False) rfl rfl ?aO ?aR (fun _ _ h=>h) (fun _ h=>h.elim) ?aF ?aB ?aS ?aL ?_;(case aR=>repeat (exact (Kd.R_reads' aE.out).2.2));(case aB=>exact (bl HB.out));(case aF=>exact (fun k_ hk=>Kd.fresh' (Kd.R_lt (kr aE.out)) k_ hk));(case aO=>exact (kr (Kd.R_mono aH.out (fun _ hk=>hk.2))));(case aS=>exact (below_size (bl HB.out)));(case aL=>have:=LMc7.out;omega);intro bU w9 ho hb hg hat;rw [← aX.out] at ho;have bA:=aM (ho);replace aE:=aM (Kd.R_after (ok:=(fun _=>True)) (kr aE.out) hg hat);replace HB:=aM (hb);clear aH;clear ho hb hg hat))
   go_roundg k1
   case measure=>have:=bG.out;omega
   case rel=>exact ⟨(aV),(wS aA),xE,H',⟨by have:=bG.out;omega⟩,⟨kr (Kd.R_mono bA.out (fun _ hk=>trivial))⟩,⟨bl HB.out⟩⟩

end Go.Proofs.YtljbdchibfjbdaaDoor.PFnIns
