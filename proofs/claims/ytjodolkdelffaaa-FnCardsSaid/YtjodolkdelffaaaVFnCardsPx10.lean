/- A part of the proof of laws.FnCards. No condition beyond what its theorems say. -/
import Derived.Test.YtjodolkdelffaaaVFnCardsPx9
namespace Go.Proofs.Ytjodolkdelffaaa.PFnCards
open Go.RowKit Go.Proofs.YtjodolkdelffaaaW.PrintWords Go.Proofs.YtjodolkdelffaaaW.PrintLast Go.Proofs.YtjodolkdelffaaaW.PrintMore
set_option linter.unusedVariables false
set_option linter.unusedSimpArgs false

def Z15.l0:Nat→List (S42)→Int→Int→List Bool→List (S42)→List (S72)→Option (Bool)
 | 0,_,_,_,_,_,_=>none
 | k+1,x6,x7,x8,aA,aC,aD=>if x8<x7 then (if 0≤x8 then (if x8<(x6.length:Int) then ((Z18.f k ((rd_T42 x6 x8).f0) ((rd_T42 x6 x8).f1)).bind fun aE=>(if aE=true then (Z15.l0 k x6 x7 (wrap64 (x8+1)) aA aC aD) else (some false))) else (none)) else (none)) else ((Z23.f (aA.length:Int) 1 4).bind fun aG=>(if aG=true then (if (aC.length:Int)=(aA.length:Int) then ((Z7.f k aD).bind fun aH=>(some aH)) else (some false)) else (some false)))
def Z15.f (k:Nat) (aC:List Bool) (aA:List (S42)) (aD:List (S72)):Option (Bool):=Z15.l0 k aA (aA.length:Int) 0 aC aA aD
theorem Z15.mono_l:∀ k,(∀ y0 y1 y2 y3 y4 y5,LeO (Z15.l0 k y0 y1 y2 y3 y4 y5) (Z15.l0 (k+1) y0 y1 y2 y3 y4 y5))
 | 0=>fun _ _ _ _ _ _ r h=>by simp [Z15.l0] at h
 | k+1=>by
  have ih0:=Z15.mono_l k
  ·intro y0 y1 y2 y3 y4 y5
   unfold Z15.l0
   repeat' (with_reducible first|apply ih0|apply Z18.mono|apply Z7.mono|exact lR _|refine lI ?_ ?_|refine lB ?_ fun _=>?_)
theorem Z15.mono:∀ a0 a1 a2 k,LeO (Z15.f k a0 a1 a2) (Z15.f (k+1) a0 a1 a2):=by
 intro a0 a1 a2 k;have ih0:=Z15.mono_l k;unfold Z15.f
 repeat' (with_reducible apply ih0)
set_option maxHeartbeats 60000000 in
set_option maxRecDepth 100000 in
theorem Z15.calls (k:Nat) (bG:Option Addr) (bH:Nat) (aE:List Bool) (bI:Option Addr) (bJ:Nat) (aA:List (S42)) (bK:Option Addr) (bL:Nat) (aG:List (S72)) (r:Bool) (w:World) (hr0_0:Kd.C Kd.bool w bG aE.length aE) (hc0_0:aE.length≤bH) (hr0_1:Kd.C k42 w bI aA.length aA) (hc0_1:aA.length≤bJ) (hr0_2:Kd.C k72 w bK aG.length aG) (hc0_2:aG.length≤bL) (h:Z15.f k aE aA aG=some r) :
  Calls Try.prog 10 #[.agg #[.slice bG aE.length bH,.slice bI aA.length bJ,.slice bK aG.length bL]] w fun e w'=>e=.returned (.bool r)∧Below w.heap.size w w':=by
 clear hr0_0 hc0_0;have bO:=aM hr0_1;clear hr0_1 hc0_1;have bV:=aM hr0_2;have bW:=aM hc0_2;clear hr0_2 hc0_2;have HB:=aM (Below.refl w.heap.size w);have H:(Z15.l0 k aA (aA.length:Int) 0 aE aA aG)=some r:=h;clear h;have H':=aM H;clear H;go_enter Try.func10,Try.ntmps10
 go_wp2_with (((with_reducible refine gD (N:=1) rfl ?_);(try (refine gate_guard (by rfl) ?_;dsimp only));refine bE (N:=1) (cs:=#[.slice bG aE.length bH,.slice bI aA.length bJ,.slice bK aG.length bL]) (t:=28) ?_;intro bX hg w2 hbox hb;have aC:=aM (hbox);replace HB:=rS HB hb;clear hb hbox hg;have dH:=cA3 aC.out))
 go_loopg [8] k (fun kq v8 w'=>∃ (aD:Int),v8=.int .i64 aD∧Aside0 (Z15.l0 kq aA (aA.length:Int) aD aE aA aG=some r)∧Aside0 (kq≤k)∧Aside0 (w'.heap[bX]?=some (.cells #[(.slice bG aE.length bH),(.slice bI aA.length bJ),(.slice bK aG.length bL)] 28 (0,0)))∧Aside0 (Below w.heap.size w w'))
 case atStart=>exact ⟨(0),xE,H',⟨Nat.le_refl _⟩,⟨bk aC.out⟩,⟨bl HB.out⟩⟩
 case round =>
  clear H'
  repeat first|clear c1|clear p2
  obtain ⟨aD,rfl,HA,cG,aC,HB⟩:=hrel;cases gk with
  | zero=>exact absurd HA.out (by simp [Z15.l0])
  | succ k1 =>
   have H:=HA.out;clear HA;simp only [Z15.l0] at H
   by_cases c4:aD<(aA.length:Int)
   case pos =>
    rw [if_pos c4] at H
    have cK:=decide_eq_true c4;clear c4;obtain ⟨dI,H⟩:=gI H;obtain ⟨dJ,H⟩:=gI H;obtain ⟨cL,cH,H⟩:=hB H;have A7:=aM cH;clear cH
    by_cases c8:cL=true
    case neg =>
     replace c8:=Bool.eq_false_iff.mpr c8;subst c8;replace H:=hF H;obtain rfl:=Option.some.inj H;have aW:0≤(aD:Int):=dT;have aX:aD<(aA.length:Int):=dT;obtain ⟨bY,aK,aN,bN,aH,aI,hl459_1,hi459_1⟩:=at_T42 bO.out aD aW aX;cases bN
     replace aH:=xB HB aH;replace aI:=xB HB aI;have bA:=aM hi459_1;have bD:=aM hl459_1;clear hi459_1 hl459_1;replace aW:=eq_true aW;replace aX:=eq_true aX;go_wp2_with (first|((with_reducible refine gD (N:=4) rfl ?_);(try (refine gate_guard (by rfl) ?_;dsimp only));refine bE (N:=4) (cs:=#[.int .i64 0,.slice none 0 0]) (t:=42) ?_;intro bM hg dK hbox hb;have aJ:=aM (hbox);have cA:=gF hg HB;have aQ:=nM hg aC;have aT:=nH hg aC;replace aC:=rB aC hb;replace HB:=rS HB hb;clear hb hbox hg;have cX:=cA2 aJ.out)|((with_reducible refine gC (f:=39) rfl ?_);refine gL (some 13) Try.func39 #[.agg #[((rd_T42 aA aD).f0),.slice aK ((rd_T42 aA aD).f1).length aN]] ?_;(with_reducible refine (Z18.calls k1 ((rd_T42 aA aD).f0) _ _ ((rd_T42 aA aD).f1) false _ ?side1 ?side2 A7.out).mono ?_);(case side1=>exact cB bA.out (bl HB.out));(case side2=>exact bD.out);rintro e dL ⟨rfl,hb⟩;refine ⟨_,rfl,?_⟩;replace aC:=aM (bB (fm aC.out) hb);replace aJ:=aM (bB (g:=bM) (o:=.cells #[((rd_T42 aA aD).f0),.slice aK ((rd_T42 aA aD).f1).length aN] 42 (0,0)) (bm aJ.out) hb);replace HB:=rS HB hb;(try clear hb)))
     go_ret
     exact ⟨xW,bl HB.out⟩
    subst c8;replace H:=hP H rfl;have H':=aM H;clear H;have aW:0≤(aD:Int):=dT;have aX:aD<(aA.length:Int):=dT;obtain ⟨bY,aK,aN,bN,aH,aI,hl459_1,hi459_1⟩:=at_T42 bO.out aD aW aX;cases bN
    replace aH:=xB HB aH;replace aI:=xB HB aI;have bA:=aM hi459_1;have bD:=aM hl459_1;clear hi459_1 hl459_1;replace aW:=eq_true aW;replace aX:=eq_true aX;go_wp2_with (first|((with_reducible refine gD (N:=4) rfl ?_);(try (refine gate_guard (by rfl) ?_;dsimp only));refine bE (N:=4) (cs:=#[.int .i64 0,.slice none 0 0]) (t:=42) ?_;intro bM hg w9 hbox hb;have aJ:=aM (hbox);have cA:=gF hg HB;have aQ:=nM hg aC;have aT:=nH hg aC;replace aC:=rB aC hb;replace HB:=rS HB hb;clear hb hbox hg;have dB:=cA2 aJ.out)|((with_reducible refine gC (f:=39) rfl ?_);refine gL (some 13) Try.func39 #[.agg #[((rd_T42 aA aD).f0),.slice aK ((rd_T42 aA aD).f1).length aN]] ?_;(with_reducible refine (Z18.calls k1 ((rd_T42 aA aD).f0) _ _ ((rd_T42 aA aD).f1) true _ ?side1 ?side2 A7.out).mono ?_);(case side1=>exact cB bA.out (bl HB.out));(case side2=>exact bD.out);rintro e dM ⟨rfl,hb⟩;refine ⟨_,rfl,?_⟩;replace aC:=aM (bB (fm aC.out) hb);replace aJ:=aM (bB (g:=bM) (o:=.cells #[((rd_T42 aA aD).f0),.slice aK ((rd_T42 aA aD).f1).length aN] 42 (0,0)) (bm aJ.out) hb);replace HB:=rS HB hb;(try clear hb)))
    go_roundg k1
    case measure=>have:=cG.out;omega
    case rel=>exact ⟨(wS aD),xE,H',⟨by have:=cG.out;omega⟩,⟨bk aC.out⟩,⟨bl HB.out⟩⟩
   rw [if_neg c4] at H
   have cK:=decide_eq_false c4;clear c4;obtain ⟨cN,bQ,H⟩:=hB H;have bT:=aM bQ;clear bQ
   by_cases bP:cN=true
   case neg =>
    replace bP:=Bool.eq_false_iff.mpr bP;subst bP;replace H:=hF H;obtain rfl:=Option.some.inj H;have dC:=cA3 aC.out;go_wp2_with (((with_reducible refine gC (f:=40) rfl ?_);refine gL (some 19) Try.func40 #[.int .i64 (aE.length:Int),.int .i64 1,.int .i64 4] ?_;(with_reducible refine (Z23.calls (aE.length:Int) 1 4 false _ bT.out).mono ?_);rintro e w' ⟨rfl,⟨nd,rfl⟩⟩;refine ⟨_,rfl,?_⟩))
    go_ret
    exact ⟨xW,bl HB.out⟩
   subst bP;replace H:=hP H rfl
   by_cases aV:(aA.length:Int)=(aE.length:Int)
   case neg =>
    rw [if_neg aV] at H
    have cC:((aA.length:Int) == (aE.length:Int))=false:=beq_eq_false_iff_ne.mpr aV
    obtain rfl:=Option.some.inj H;have dD:=cA3 aC.out;go_wp2_with (((with_reducible refine gC (f:=40) rfl ?_);refine gL (some 19) Try.func40 #[.int .i64 (aE.length:Int),.int .i64 1,.int .i64 4] ?_;(with_reducible refine (Z23.calls (aE.length:Int) 1 4 true _ bT.out).mono ?_);rintro e w' ⟨rfl,⟨nd,rfl⟩⟩;refine ⟨_,rfl,?_⟩))
    go_ret
    exact ⟨xW,bl HB.out⟩
   rw [if_pos aV] at H
   have cC:((aA.length:Int) == (aE.length:Int))=true:=beq_iff_eq.mpr aV
   clear aV;obtain ⟨cO,bU,H⟩:=hB H;have cP:=aM bU;clear bU;obtain rfl:=Option.some.inj H;have dE:=cA3 aC.out;go_wp2_with (first|((with_reducible refine gC (f:=40) rfl ?_);refine gL (some 19) Try.func40 #[.int .i64 (aE.length:Int),.int .i64 1,.int .i64 4] ?_;(with_reducible refine (Z23.calls (aE.length:Int) 1 4 true _ bT.out).mono ?_);rintro e w' ⟨rfl,⟨nd,rfl⟩⟩;refine ⟨_,rfl,?_⟩)|(go_at_call 41;(with_reducible refine (Z7.calls k1 _ _ aG cO _ ?side1 ?side2 cP.out).mono ?_);(case side1=>exact cM (cB bV.out (bl HB.out)));(case side2=>exact bW.out);rintro e dN ⟨rfl,hb⟩;replace aC:=rB aC hb;replace HB:=rS HB hb;(try clear hb)))
   go_ret
   exact ⟨xW,bl HB.out⟩

def Z53.f (aA aC aD:Int) (aE:List Int):Option (Bool):=(Z23.f aA 0 9).bind fun aG=>(if aG=true then ((Z48.f aC).bind fun aH=>(if aH=true then ((Z23.f aD 0 4).bind fun aI=>(if aI=true then (some (decide ((aE.length:Int)≤30))) else (some false))) else (some false))) else (some false))
set_option maxHeartbeats 60000000 in
set_option maxRecDepth 100000 in
theorem Z53.calls (aA aC aE:Int) (aH:Option Addr) (aI:Nat) (aD:List Int) (r:Bool) (w:World) (hr0_3:Kd.C (Kd.int .u8) w aH aD.length aD) (hc0_3:aD.length≤aI) (h:Z53.f aA aC aE aD=some r) :
  Calls Try.prog 19 #[.agg #[aA,aC,aE,.slice aH aD.length aI]] w fun e w'=>e=.returned (.bool r)∧Below w.heap.size w w':=by
 clear hr0_3 hc0_3;have HB:=aM (Below.refl w.heap.size w);have H:((Z23.f aA 0 9).bind fun aQ=>(if aQ=true then ((Z48.f aC).bind fun aT=>(if aT=true then ((Z23.f aE 0 4).bind fun aV=>(if aV=true then (some (decide ((aD.length:Int)≤30))) else (some false))) else (some false))) else (some false)))=some r:=h
 clear h;obtain ⟨aQ,aW,H⟩:=hB H;have A2:=aM aW;clear aW
 by_cases c3:aQ=true
 case neg =>
  replace c3:=Bool.eq_false_iff.mpr c3;subst c3;replace H:=hF H;obtain rfl:=Option.some.inj H;go_enter Try.func19,Try.ntmps19
  go_wp2_with (first|((with_reducible refine gD (N:=1) rfl ?_);(try (refine gate_guard (by rfl) ?_;dsimp only));refine bE (N:=1) (cs:=#[aA,aC,aE,.slice aH aD.length aI]) (t:=30) ?_;intro aJ hg bM hbox hb;have aG:=aM (hbox);replace HB:=rS HB hb;clear hb hbox hg;have bH:=cA4 aG.out)|((with_reducible refine gC (f:=40) rfl ?_);refine gL (some 5) Try.func40 #[aA,.int .i64 0,.int .i64 9] ?_;(with_reducible refine (Z23.calls aA 0 9 false _ A2.out).mono ?_);rintro e w' ⟨rfl,⟨nd,rfl⟩⟩;refine ⟨_,rfl,?_⟩))
  go_ret
  exact ⟨xW,bl HB.out⟩
 subst c3;replace H:=hP H rfl;obtain ⟨aT,aX,H⟩:=hB H;have A4:=aM aX;clear aX
 by_cases c5:aT=true
 case neg =>
  replace c5:=Bool.eq_false_iff.mpr c5;subst c5;replace H:=hF H;obtain rfl:=Option.some.inj H;go_enter Try.func19,Try.ntmps19
  go_wp2_with (first|((with_reducible refine gD (N:=1) rfl ?_);(try (refine gate_guard (by rfl) ?_;dsimp only));refine bE (N:=1) (cs:=#[aA,aC,aE,.slice aH aD.length aI]) (t:=30) ?_;intro aJ hg bN hbox hb;have aG:=aM (hbox);replace HB:=rS HB hb;clear hb hbox hg;have bI:=cA4 aG.out)|((with_reducible refine gC (f:=40) rfl ?_);refine gL (some 5) Try.func40 #[aA,.int .i64 0,.int .i64 9] ?_;(with_reducible refine (Z23.calls aA 0 9 true _ A2.out).mono ?_);rintro e w' ⟨rfl,⟨nd,rfl⟩⟩;refine ⟨_,rfl,?_⟩)|(go_at_call 49;(with_reducible refine (Z48.calls aC false _ A4.out).mono ?_);rintro e w' ⟨rfl,⟨nd,rfl⟩⟩))
  go_ret
  exact ⟨xW,bl HB.out⟩
 subst c5;replace H:=hP H rfl;obtain ⟨aV,bA,H⟩:=hB H;have A6:=aM bA;clear bA
 by_cases c7:aV=true
 case pos =>
  subst c7;replace H:=hP H rfl;obtain rfl:=Option.some.inj H;go_enter Try.func19,Try.ntmps19
  go_wp2_with (first|((with_reducible refine gD (N:=1) rfl ?_);(try (refine gate_guard (by rfl) ?_;dsimp only));refine bE (N:=1) (cs:=#[aA,aC,aE,.slice aH aD.length aI]) (t:=30) ?_;intro aJ hg w8 hbox hb;have aG:=aM (hbox);replace HB:=rS HB hb;clear hb hbox hg;have bL:=cA4 aG.out)|((with_reducible refine gC (f:=40) rfl ?_);refine gL (some 5) Try.func40 #[aA,.int .i64 0,.int .i64 9] ?_;(with_reducible refine (Z23.calls aA 0 9 true _ A2.out).mono ?_);rintro e w' ⟨rfl,⟨nd,rfl⟩⟩;refine ⟨_,rfl,?_⟩)|(go_at_call 49;(with_reducible refine (Z48.calls aC true _ A4.out).mono ?_);rintro e w' ⟨rfl,⟨nd,rfl⟩⟩)|(go_at_call 40;(with_reducible refine (Z23.calls aE 0 4 true _ A6.out).mono ?_);rintro e w' ⟨rfl,⟨nd,rfl⟩⟩))
  go_ret
  exact ⟨xW,bl HB.out⟩
 replace c7:=Bool.eq_false_iff.mpr c7;subst c7;replace H:=hF H;obtain rfl:=Option.some.inj H;go_enter Try.func19,Try.ntmps19
 go_wp2_with (first|((with_reducible refine gD (N:=1) rfl ?_);(try (refine gate_guard (by rfl) ?_;dsimp only));refine bE (N:=1) (cs:=#[aA,aC,aE,.slice aH aD.length aI]) (t:=30) ?_;intro aJ hg bO hbox hb;have aG:=aM (hbox);replace HB:=rS HB hb;clear hb hbox hg;have bJ:=cA4 aG.out)|((with_reducible refine gC (f:=40) rfl ?_);refine gL (some 5) Try.func40 #[aA,.int .i64 0,.int .i64 9] ?_;(with_reducible refine (Z23.calls aA 0 9 true _ A2.out).mono ?_);rintro e w' ⟨rfl,⟨nd,rfl⟩⟩;refine ⟨_,rfl,?_⟩)|(go_at_call 49;(with_reducible refine (Z48.calls aC true _ A4.out).mono ?_);rintro e w' ⟨rfl,⟨nd,rfl⟩⟩)|(go_at_call 40;(with_reducible refine (Z23.calls aE 0 4 false _ A6.out).mono ?_);rintro e w' ⟨rfl,⟨nd,rfl⟩⟩))
 go_ret
 exact ⟨xW,bl HB.out⟩

def Z58.f (l0:List Int):Option (List Int):=(some (([]:List Int):List Int)).bind fun aA=>(if aA.length+l0.length<140737488355328 then (some (aA++l0)) else (none))
set_option maxHeartbeats 60000000 in
set_option maxRecDepth 100000 in
theorem Z58.calls (A0:Option Addr) (c0:Nat) (l0:List Int) (r:List Int) (w:World) (hr0:Kd.C (Kd.int .u8) w A0 l0.length l0) (hc0:l0.length≤c0) (h:Z58.f l0=some r) :
  Calls Try.prog 67 #[.slice A0 l0.length c0] w fun e w'=>∃ aJ:Value,e=.returned (aJ)∧Kd.R (Kd.int .u8) 5 w' w.heap.size (fun _=>True) aJ r∧Below w.heap.size w w':=by
 have qn:∀ (w:World) (a:Option Addr) (n c n' c':Nat),(binOp .eql 22 (.slice a n c) (.slice none n' c')).run Try.prog w=.ok (.bool a.isNone) w:=fun w a n c n' c'=>Lib.run_eql_slice_nil w _ _ a n c n' c' Try.underlying22
 by_cases hnil:A0=none
 ·have hl:l0=[]:=by
   have hc:=hr0.2.2;rw [hnil] at hc
   cases l0 with
   | nil=>rfl
   | cons x t=>obtain ⟨_,hx,_⟩:=hc (by simp);cases hx
  subst hnil;subst hl;have hr:r=[]:=by simpa [Z58.f] using h.symm
  subst hr;clear hr0 h;go_enter Try.func67,Try.ntmps67
  go_wp2
  go_ret
  exact ⟨_,rfl,Kd.R_nil _ _ _ _ _,Below.refl _ _⟩
 have hsome:A0.isNone=false:=by cases A0 <;> simp at hnil ⊢
 clear hnil;have aQ:=aM hr0;clear hr0 hc0;have HB:=aM (Below.refl w.heap.size w);have H:((some (([]:List Int):List Int)).bind fun aC=>(if aC.length+l0.length<140737488355328 then (some (aC++l0)) else (none)))=some r:=h
 clear h;obtain ⟨aC,aE,H⟩:=hS H;have aG:=aM aE;clear aE
 by_cases c2:aC.length+l0.length<140737488355328
 case neg =>
  rw [if_neg c2] at H
  exact absurd H (by simp)
 rw [if_pos c2] at H
 have LMc2:=aM c2;clear c2;obtain ⟨aK,aA⟩:∃ y_:List Int,y_=(aC++l0):=⟨_,rfl⟩;replace H:(some aK)=some r:=by (rw [aA];with_reducible exact H)
 have aH:=aM aA;clear aA;obtain rfl:=Option.some.inj H;go_enter Try.func67,Try.ntmps67
 go_wp2_with (first|((with_reducible refine gD (N:=5) rfl ?_);refine Kd.R_lit (Kd.int .u8) _ 5 ?hg (N:=5) ?hd (xs:=([]:List Int)) (inner:=[]) (ok:=fun _=>True) (okp:=fun _=>True) ?hr ?hp (fun _ hk=>hk) trivial (Below.refl _ _) (Nat.le_refl _) (by simp) ?_;(case hd=>rfl);(case hg=>rfl);(case hr=>(go_simp;done));(case hp=>exact (Reps.none _ _));intro aN w3 ho4 hb hg_ hnew_;clear hg_ hnew_;(rw [← aG.out] at ho4);have aD:=aM (Kd.R_lower ho4 (below_size (bl HB.out)));replace HB:=rS HB hb;clear hb ho4)|((with_reducible refine gate_builtin (b:=.append) (xs:=#[.tmp 5,.tmp 6]) rfl ?_);at_builtin;refine Kd.R_append_rows (Kd.int .u8) (w0:=w) w.heap.size rfl (.tmp 5) (.tmp 6) 22 5 (.int .u8 0) 1 rfl Try.underlying22 info5 rfl (by decide) (by omega) aN aC l0 _ _ _ (fun _=>True) (fun _=>False) rfl rfl ?aO ?aR (fun _ _ h=>h) (fun _ h=>h.elim) ?aF ?aB ?aS ?aL ?_;(case aR=>repeat (exact (cB aQ.out HB.out)));(case aB=>exact (bl HB.out));(case aF=>exact (fun _ _=>trivial));(case aO=>exact (kr aD.out));(case aS=>exact (below_size (bl HB.out)));(case aL=>have:=LMc2.out;omega);intro aT w5 ho hb hg hat;rw [← aH.out] at ho;have aI:=aM (ho);replace HB:=aM (hb);clear aD;clear ho hb hg hat))
 go_ret
 exact ⟨_,xW,by (with_reducible repeat (first|apply Kd.R_alloc|apply Kd.R_drewN|apply Kd.R_drew));exact aI.out,bl HB.out⟩

def Z50.f (aA aC aD:Int) (aE:List Int):Option (Int × Int × Int × List Int):=(Z58.f aE).bind fun aG=>(some (aA,aC,aD,aG))
set_option maxHeartbeats 60000000 in
set_option maxRecDepth 100000 in
theorem Z50.calls (aG aH aI:Int) (aK:Option Addr) (aN:Nat) (aC:List Int) (r1 r2 r3:Int) (r4:List Int) (w:World) (hr0_3:Kd.C (Kd.int .u8) w aK aC.length aC) (hc0_3:aC.length≤aN) (h:Z50.f aG aH aI aC=some (r1,r2,r3,r4)) :
  Calls Try.prog 42 #[.agg #[aG,aH,aI,.slice aK aC.length aN]] w fun e w'=>∃ bH:Value,e=.returned (.agg #[r1,r2,r3,bH])∧Kd.R (Kd.int .u8) 5 w' w.heap.size (fun _=>True) bH r4∧Below w.heap.size w w':=by
 have bA:=aM hr0_3;have bD:=aM hc0_3;clear hr0_3 hc0_3;have HB:=aM (Below.refl w.heap.size w);have H:((Z58.f aC).bind fun aJ=>(some (aG,aH,aI,aJ)))=some (r1,r2,r3,r4):=h
 clear h;obtain ⟨aJ,bI,H⟩:=hB H;have A2:=aM bI;clear bI;simp only [Option.some.injEq,Prod.mk.injEq] at H;obtain ⟨rfl,rfl,rfl,rfl⟩:=H;go_enter Try.func42,Try.ntmps42
 go_wp2_with (first|((with_reducible refine gD (N:=1) rfl ?_);refine bE (N:=1) (cs:=#[aG,aH,aI,.slice aK aC.length aN]) (t:=30) ?_;intro bG hg w3 hbox hb;have aA:=aM (hbox);have bL:=gF hg HB;replace HB:=rS HB hb;clear hb hbox hg)|((with_reducible refine gD (N:=2) rfl ?_);refine bE (N:=2) (cs:=#[.int .i64 0,.int .i64 0,.int .i64 0,.slice none 0 0]) (t:=30) ?_;intro aD hg w4 hbox hb;have aE:=aM (hbox);have bN:=gF hg HB;have aQ:=nM hg aA;have aT:=nH hg aA;replace aA:=rB aA hb;replace HB:=rS HB hb;clear hb hbox hg;have bT:=aT.out;have bU:=cA4 aA.out)|((with_reducible refine gC (f:=67) rfl ?_);refine gL (some 5) Try.func67 #[.slice aK aC.length aN] ?_;(with_reducible refine (Z58.calls _ _ aC aJ _ ?side1 ?side2 A2.out).mono ?_);(case side1=>exact cM (cB bA.out HB.out));(case side2=>exact bD.out);rintro e w7 ⟨bV,rfl,ho0,hb⟩;refine ⟨_,rfl,?_⟩;have aV:=aM (Kd.R_lower ho0 (below_size (bl HB.out)));replace aA:=rB aA hb;replace aE:=rB aE hb;replace HB:=rS HB hb;(repeat first|clear hb|clear ho0);obtain ⟨aW,aX,bJ⟩:=Kd.R_slice aV.out;subst bJ;have bW:=cA4 aA.out;have bO:=cA4 aE.out))
 refine bodyPost_ret (results_cell_row rfl _ _ aD 30 #[aG,aH,aI,.slice aW aJ.length aX] (0,0) _ rfl (bm aE.out) Try.underlying30 rfl (by kernel_rfl)) rfl ?_
 exact ⟨_,xW,by (with_reducible repeat (first|apply Kd.R_alloc|apply Kd.R_drewN|apply Kd.R_drew));exact Kd.R_mono (rF4 (g:=aD) (kF (p:=⟨bG,3,none⟩) (Kd.R_types (Kd.R_types aV.out aA.out (by decide)) aE.out (by decide)) (fun _ hk=>hk.1.2) (.slice aW aJ.length aX)) (fun _ hk=>hk.2) (.int .i64 aG) (.int .i64 aH) (.int .i64 aI) (.slice aW aJ.length aX)) (fun _ hk=>trivial),bl HB.out⟩

def Z19.j0:Nat→Bool→Int→List Int→Int→Int→Int→List Int→Option (Int × Int × Int × List Int × Bool)
 | 0,_,_,_,_,_,_,_=>none
 | k+1,aN,aC,aD,aE,aG,aH,aI=>if aN=true then (some (0,0,0,([]:List Int),false)) else ((Z50.f aE aG aH aI).bind fun aA=>(if aA.2.2.1=0 then ((Z39.f k aD aC).bind fun aJ=>(if aJ=true then (some (aA.1,aA.2.1,aC,aA.2.2.2,true)) else (some (0,0,0,([]:List Int),false)))) else ((Z39.f k aD aA.2.2.1).bind fun aK=>(if aK=true then (some (aA.1,aA.2.1,aA.2.2.1,aA.2.2.2,true)) else (some (0,0,0,([]:List Int),false))))))
def Z19.f (k:Nat) (aA:Int) (aC:List Int) (aD aE aG:Int) (aH:List Int):Option (Int × Int × Int × List Int × Bool):=(Z18.f k aA aC).bind fun aI=>(if aI=true then ((Z53.f aD aE aG aH).bind fun aJ=>(Z19.j0 k (!aJ) aA aC aD aE aG aH)) else (Z19.j0 k true aA aC aD aE aG aH))
theorem Z19.mono_l:∀ k,(∀ y0 y1 y2 y3 y4 y5 y6,LeO (Z19.j0 k y0 y1 y2 y3 y4 y5 y6) (Z19.j0 (k+1) y0 y1 y2 y3 y4 y5 y6))
 | 0=>fun _ _ _ _ _ _ _ r h=>by simp [Z19.j0] at h
 | k+1=>by
  have ih0:=Z19.mono_l k
  ·intro y0 y1 y2 y3 y4 y5 y6
   unfold Z19.j0
   repeat' (with_reducible first|apply Z39.mono|exact lR _|refine lI ?_ ?_|refine lB ?_ fun _=>?_)
theorem Z19.mono:∀ a0 a1 a2 a3 a4 a5 k,LeO (Z19.f k a0 a1 a2 a3 a4 a5) (Z19.f (k+1) a0 a1 a2 a3 a4 a5):=by
 intro a0 a1 a2 a3 a4 a5 k;have ih0:=Z19.mono_l k;unfold Z19.f
 repeat' (with_reducible first|apply ih0|apply Z18.mono|exact lR _|refine lI ?_ ?_|refine lB ?_ fun _=>?_)
set_option maxHeartbeats 60000000 in
set_option maxRecDepth 100000 in
theorem Z19.calls (k:Nat) (aK:Int) (bU:Option Addr) (bV:Nat) (aH:List Int) (aT aV aW:Int) (bW:Option Addr) (bX:Nat) (aJ:List Int) (r1 r2 r3:Int) (r4:List Int) (r5:Bool) (w:World) (hr0_1:Kd.C (Kd.int .i64) w bU aH.length aH) (hc0_1:aH.length≤bV) (hr1_3:Kd.C (Kd.int .u8) w bW aJ.length aJ) (hc1_3:aJ.length≤bX) (h:Z19.f k aK aH aT aV aW aJ=some (r1,r2,r3,r4,r5)) :
  Calls Try.prog 11 #[.agg #[aK,.slice bU aH.length bV],.agg #[aT,aV,aW,.slice bW aJ.length bX]] w fun e w'=>∃ eL:Value,e=.returned (.tuple #[.agg #[r1,r2,r3,eL],r5])∧Kd.R (Kd.int .u8) 5 w' w.heap.size (fun _=>True) eL r4∧Below w.heap.size w w':=by
 have bY:=aM hr0_1;have bZ:=aM hc0_1;clear hr0_1 hc0_1;have cA:=aM hr1_3;have cC:=aM hc1_3;clear hr1_3 hc1_3;have HB:=aM (Below.refl w.heap.size w);have H:((Z18.f k aK aH).bind fun dU=>(if dU=true then ((Z53.f aT aV aW aJ).bind fun cK=>(Z19.j0 k (!cK) aK aH aT aV aW aJ)) else (Z19.j0 k true aK aH aT aV aW aJ)))=some (r1,r2,r3,r4,r5):=h
 clear h;have eF:=aM H;clear H;go_enter Try.func11,Try.ntmps11
 go_upto_region 1 with (first|((with_reducible refine gD (N:=2) rfl ?_);refine bE (N:=2) (cs:=#[aK,.slice bU aH.length bV]) (t:=42) ?_;intro cL hg w4 hbox hb;have aD:=aM (hbox);replace HB:=rS HB hb;clear hb hbox hg)|((with_reducible refine gD (N:=3) rfl ?_);refine bE (N:=3) (cs:=#[aT,aV,aW,.slice bW aJ.length bX]) (t:=30) ?_;intro cN hg w5 hbox hb;have aC:=aM (hbox);have bM:=nM hg aD;have bN:=nH hg aD;replace aD:=rB aD hb;replace HB:=rS HB hb;clear hb hbox hg)|((with_reducible refine gD (N:=4) rfl ?_);refine bE (N:=4) (cs:=#[.int .i64 0,.int .i64 0,.int .i64 0,.slice none 0 0]) (t:=30) ?_;intro aN hg w6 hbox hb;have aA:=aM (hbox);have fC:=gF hg HB;have aX:=nM hg aD;have bA:=nH hg aD;have bO:=nM hg aC;have bP:=nH hg aC;replace aD:=rB aD hb;replace aC:=rB aC hb;replace HB:=rS HB hb;clear hb hbox hg))
 go_cut [14] (fun eW wc=>∃ (kq:Nat) (cD:Bool),eW=.bool cD∧Aside0 (Z19.j0 kq cD aK aH aT aV aW aJ=some (r1,r2,r3,r4,r5))∧Aside0 (kq≤k)∧Aside0 (wc.heap[cL]?=some (.cells #[aK,(.slice bU aH.length bV)] 42 (0,0)))∧Aside0 (wc.heap[cN]?=some (.cells #[aT,aV,aW,(.slice bW aJ.length bX)] 30 (0,0)))∧Aside0 (wc.heap[aN]?=some (.cells #[.int .i64 0,.int .i64 0,.int .i64 0,(.slice none 0 0)] 30 (0,0)))∧Aside0 (Below w.heap.size w wc))
 case first =>
  have H:=eF.out;clear eF;obtain ⟨dU,eM,H⟩:=hB H;have A7:=aM eM;clear eM
  by_cases c8:dU=true
  case neg =>
   replace c8:=Bool.eq_false_iff.mpr c8;subst c8;replace H:=hF H;have H':=aM H;clear H;have fH:=cA2 aD.out;go_wp2_with (((with_reducible refine gC (f:=39) rfl ?_);refine gL (some 8) Try.func39 #[.agg #[aK,.slice bU aH.length bV]] ?_;(with_reducible refine (Z18.calls k aK _ _ aH false _ ?side1 ?side2 A7.out).mono ?_);(case side1=>exact cM (cB bY.out HB.out));(case side2=>exact bZ.out);rintro e jN ⟨rfl,hb⟩;refine ⟨_,rfl,?_⟩;replace aD:=rB aD hb;replace aC:=rB aC hb;replace aA:=rB aA hb;replace HB:=rS HB hb;(try clear hb);have hcw_gb481_0:=cI aA.out 0;have hfw_gb481_0:=bF aA.out 0;have hcw_gb481_1:=cI aA.out 1;have hfw_gb481_1:=bF aA.out 1;have hcw_gb481_2:=cI aA.out 2;have hfw_gb481_2:=bF aA.out 2;have hcw_gb481_3:=cI aA.out 3;have hfw_gb481_3:=bF aA.out 3))
   go_meet
   case rel=>exact ⟨_,(true),xE,H',⟨by omega⟩,⟨bk aD.out⟩,⟨bk aC.out⟩,⟨bk aA.out⟩,⟨bl HB.out⟩⟩
  subst c8;replace H:=hP H rfl;obtain ⟨cK,eN,H⟩:=hB H;have A9:=aM eN;clear eN;have H':=aM H;clear H;have fN:=cA2 aD.out;go_wp2_with (first|((with_reducible refine gC (f:=39) rfl ?_);refine gL (some 8) Try.func39 #[.agg #[aK,.slice bU aH.length bV]] ?_;(with_reducible refine (Z18.calls k aK _ _ aH true _ ?side1 ?side2 A7.out).mono ?_);(case side1=>exact cM (cB bY.out HB.out));(case side2=>exact bZ.out);rintro e jO ⟨rfl,hb⟩;refine ⟨_,rfl,?_⟩;replace aD:=rB aD hb;replace aC:=rB aC hb;replace aA:=rB aA hb;replace HB:=rS HB hb;(try clear hb);have fQ:=cA4 aC.out;have hcw_gb481_0:=cI aA.out 0;have hfw_gb481_0:=bF aA.out 0;have hcw_gb481_1:=cI aA.out 1;have hfw_gb481_1:=bF aA.out 1;have hcw_gb481_2:=cI aA.out 2;have hfw_gb481_2:=bF aA.out 2;have hcw_gb481_3:=cI aA.out 3;have hfw_gb481_3:=bF aA.out 3)|(go_at_call 19;(with_reducible refine (Z53.calls aT aV aW _ _ aJ cK _ ?side1 ?side2 A9.out).mono ?_);(case side1=>exact cM (cB cA.out HB.out));(case side2=>exact cC.out);rintro e jP ⟨rfl,hb⟩;replace aD:=rB aD hb;replace aC:=rB aC hb;replace aA:=rB aA hb;replace HB:=rS HB hb;(try clear hb);have hcw_gb481_0:=cI aA.out 0;have hfw_gb481_0:=bF aA.out 0;have hcw_gb481_1:=cI aA.out 1;have hfw_gb481_1:=bF aA.out 1;have hcw_gb481_2:=cI aA.out 2;have hfw_gb481_2:=bF aA.out 2;have hcw_gb481_3:=cI aA.out 3;have hfw_gb481_3:=bF aA.out 3))
  go_meet
  case rel=>exact ⟨_,(!cK),xE,H',⟨by omega⟩,⟨bk aD.out⟩,⟨bk aC.out⟩,⟨bk aA.out⟩,⟨bl HB.out⟩⟩
 case rest =>
  clear eF
  repeat first|clear c1|clear p2|clear c3|clear c8|clear jQ|clear jR|clear jS|clear jT|clear jU
  obtain ⟨kq,cD,rfl,HA,HJ2,aD,aC,aA,HB⟩:=hcut;cases kq with
  | zero=>exact absurd HA.out (by simp [Z19.j0])
  | succ eA =>
   have H:=HA.out;clear HA;simp only [Z19.j0] at H
   by_cases eB:cD=true
   case pos =>
    subst eB;replace H:=hP H rfl;simp only [Option.some.injEq,Prod.mk.injEq] at H;obtain ⟨rfl,rfl,rfl,rfl,rfl⟩:=H;have fW:=cA4 aA.out;go_wp2
    refine bodyPost_ret (results_ct rfl _ _ aN 30 #[.int .i64 0,.int .i64 0,.int .i64 0,.slice none 0 0] (0,0) _ rfl (bm aA.out) Try.underlying30 rfl (by kernel_rfl)) rfl ?_
    exact ⟨_,xW,by exact Kd.R_nil _ _ _ _ _,bl HB.out⟩
   replace eB:=Bool.eq_false_iff.mpr eB;subst eB;replace H:=hF H;obtain ⟨⟨bQ,bT,aQ,bD⟩,eG,H⟩:=hB H
   try dsimp only at H
   have eC:=aM eG;clear eG
   by_cases cE:aQ=0
   case neg =>
    rw [if_neg cE] at H
    have eJ:(aQ == 0)=false:=beq_eq_false_iff_ne.mpr cE;obtain ⟨eQ,eH,H⟩:=hB H;have eO:=aM eH;clear eH
    by_cases eD:eQ=true
    case pos =>
     subst eD;replace H:=hP H rfl;simp only [Option.some.injEq,Prod.mk.injEq] at H;obtain ⟨rfl,rfl,rfl,rfl,rfl⟩:=H;have gG:=cA4 aC.out;go_wp2_with (first|((with_reducible refine gC (f:=42) rfl ?_);refine gL (some 17) Try.func42 #[.agg #[aT,aV,aW,.slice bW aJ.length bX]] ?_;(with_reducible refine (Z50.calls aT aV aW _ _ aJ bQ bT aQ bD _ ?side1 ?side2 eC.out).mono ?_);(case side1=>exact cM (cB cA.out HB.out));(case side2=>exact cC.out);rintro e jV ⟨dV,rfl,ho0,hb⟩;refine ⟨_,rfl,?_⟩;have aG:=aM (Kd.R_lower ho0 (below_size (bl HB.out)));replace aD:=rB aD hb;replace aC:=rB aC hb;replace aA:=rB aA hb;replace HB:=rS HB hb;(repeat first|clear hb|clear ho0);have hcw_gb481_0:=cI aA.out 0;have hfw_gb481_0:=bF aA.out 0;have hcw_gb481_1:=cI aA.out 1;have hfw_gb481_1:=bF aA.out 1;have hcw_gb481_2:=cI aA.out 2;have hfw_gb481_2:=bF aA.out 2;have hcw_gb481_3:=cI aA.out 3;have hfw_gb481_3:=bF aA.out 3)|((with_reducible refine gD (N:=6) rfl ?_);refine bR aG (N:=6) (cs:=#[.int .i64 0,.int .i64 0,.int .i64 0,.slice none 0 0]) (t:=30) ?_;intro aI hg jW hbox hb;have aE:=aM (hbox);have cP:=gF hg HB;have bG:=nM hg aD;have bH:=nH hg aD;have bI:=nM hg aC;have bJ:=nH hg aC;have bK:=nM hg aA;have bL:=nH hg aA;replace aG:=rK aG hb;replace aD:=rB aD hb;replace aC:=rB aC hb;replace aA:=rB aA hb;replace HB:=rS HB hb;clear hb hbox hg;have gJ:=bG.out;have gK:=bJ.out;have gM:=bI.out;have gN:=bL.out;have gO:=bK.out;have gP:=cA4 aE.out;obtain ⟨dW,dX,eR⟩:=Kd.R_slice aG.out;subst eR;have gQ:=aX.out;have gR:=bA.out;have gS:=cA2 aD.out;have hcw_gb481_0:=cI aA.out 0;have hfw_gb481_0:=bF aA.out 0;have hcw_gb481_1:=cI aA.out 1;have hfw_gb481_1:=bF aA.out 1;have hcw_gb481_2:=cI aA.out 2;have hfw_gb481_2:=bF aA.out 2;have hcw_gb481_3:=cI aA.out 3;have hfw_gb481_3:=bF aA.out 3)|((with_reducible refine gC (f:=43) rfl ?_);refine gL (some 28) Try.func43 #[.slice bU aH.length bV,aQ] ?_;(with_reducible refine (Z39.calls eA _ _ aH aQ true _ ?side1 ?side2 eO.out).mono ?_);(case side1=>exact cB bY.out (bl HB.out));(case side2=>exact bZ.out);rintro e w' ⟨rfl,⟨nd,rfl⟩⟩;refine ⟨_,rfl,?_⟩))
     refine bodyPost_ret (results_ct rfl _ _ aN 30 #[bQ,bT,aQ,.slice dW bD.length dX] (0,0) _ rfl (bm aA.out) Try.underlying30 rfl (by kernel_rfl)) rfl ?_
     exact ⟨_,xW,by (with_reducible repeat (first|apply Kd.R_alloc|apply Kd.R_drewN|apply Kd.R_drew));exact Kd.R_mono (rF4 (g:=aN) (rF4 (g:=aI) (Kd.R_types (Kd.R_types aG.out aE.out (by decide)) aA.out (by decide)) (fun _ hk=>hk.1.2) (.int .i64 bQ) (.int .i64 bT) (.int .i64 aQ) (.slice dW bD.length dX)) (fun _ hk=>hk.2) (.int .i64 bQ) (.int .i64 bT) (.int .i64 aQ) (.slice dW bD.length dX)) (fun _ hk=>trivial),bl HB.out⟩
    replace eD:=Bool.eq_false_iff.mpr eD;subst eD;replace H:=hF H;simp only [Option.some.injEq,Prod.mk.injEq] at H;obtain ⟨rfl,rfl,rfl,rfl,rfl⟩:=H;have gY:=cA4 aC.out;go_wp2_with (first|((with_reducible refine gC (f:=42) rfl ?_);refine gL (some 17) Try.func42 #[.agg #[aT,aV,aW,.slice bW aJ.length bX]] ?_;(with_reducible refine (Z50.calls aT aV aW _ _ aJ bQ bT aQ bD _ ?side1 ?side2 eC.out).mono ?_);(case side1=>exact cM (cB cA.out HB.out));(case side2=>exact cC.out);rintro e jX ⟨dV,rfl,ho0,hb⟩;refine ⟨_,rfl,?_⟩;have aG:=aM (Kd.R_lower ho0 (below_size (bl HB.out)));replace aD:=rB aD hb;replace aC:=rB aC hb;replace aA:=rB aA hb;replace HB:=rS HB hb;(repeat first|clear hb|clear ho0);have hcw_gb481_0:=cI aA.out 0;have hfw_gb481_0:=bF aA.out 0;have hcw_gb481_1:=cI aA.out 1;have hfw_gb481_1:=bF aA.out 1;have hcw_gb481_2:=cI aA.out 2;have hfw_gb481_2:=bF aA.out 2;have hcw_gb481_3:=cI aA.out 3;have hfw_gb481_3:=bF aA.out 3)|((with_reducible refine gD (N:=6) rfl ?_);refine bR aG (N:=6) (cs:=#[.int .i64 0,.int .i64 0,.int .i64 0,.slice none 0 0]) (t:=30) ?_;intro aI hg jY hbox hb;have aE:=aM (hbox);have cP:=gF hg HB;have bG:=nM hg aD;have bH:=nH hg aD;have bI:=nM hg aC;have bJ:=nH hg aC;have bK:=nM hg aA;have bL:=nH hg aA;replace aG:=rK aG hb;replace aD:=rB aD hb;replace aC:=rB aC hb;replace aA:=rB aA hb;replace HB:=rS HB hb;clear hb hbox hg;have hD:=bG.out;have hH:=bJ.out;have hJ:=bI.out;have hO:=bL.out;have hU:=bK.out;have hY:=cA4 aE.out;obtain ⟨jL,jM,eS⟩:=Kd.R_slice aG.out;subst eS;have hZ:=aX.out;have iA:=bA.out;have iB:=cA2 aD.out;have hcw_gb481_0:=cI aA.out 0;have hfw_gb481_0:=bF aA.out 0;have hcw_gb481_1:=cI aA.out 1;have hfw_gb481_1:=bF aA.out 1;have hcw_gb481_2:=cI aA.out 2;have hfw_gb481_2:=bF aA.out 2;have hcw_gb481_3:=cI aA.out 3;have hfw_gb481_3:=bF aA.out 3)|((with_reducible refine gC (f:=43) rfl ?_);refine gL (some 28) Try.func43 #[.slice bU aH.length bV,aQ] ?_;(with_reducible refine (Z39.calls eA _ _ aH aQ false _ ?side1 ?side2 eO.out).mono ?_);(case side1=>exact cB bY.out (bl HB.out));(case side2=>exact bZ.out);rintro e w' ⟨rfl,⟨nd,rfl⟩⟩;refine ⟨_,rfl,?_⟩))
    refine bodyPost_ret (results_ct rfl _ _ aN 30 #[.int .i64 0,.int .i64 0,.int .i64 0,.slice none 0 0] (0,0) _ rfl (bm aA.out) Try.underlying30 rfl (by kernel_rfl)) rfl ?_
    exact ⟨_,xW,by exact Kd.R_nil _ _ _ _ _,bl HB.out⟩
   rw [if_pos cE] at H
   have eJ:(aQ == 0)=true:=beq_iff_eq.mpr cE;clear cE;obtain ⟨eT,eI,H⟩:=hB H;have eP:=aM eI;clear eI
   by_cases eE:eT=true
   case pos =>
    subst eE;replace H:=hP H rfl;simp only [Option.some.injEq,Prod.mk.injEq] at H;obtain ⟨rfl,rfl,rfl,rfl,rfl⟩:=H;have iH:=cA4 aC.out;go_wp2_with (first|((with_reducible refine gC (f:=42) rfl ?_);refine gL (some 17) Try.func42 #[.agg #[aT,aV,aW,.slice bW aJ.length bX]] ?_;(with_reducible refine (Z50.calls aT aV aW _ _ aJ bQ bT aQ bD _ ?side1 ?side2 eC.out).mono ?_);(case side1=>exact cM (cB cA.out HB.out));(case side2=>exact cC.out);rintro e jZ ⟨dV,rfl,ho0,hb⟩;refine ⟨_,rfl,?_⟩;have aG:=aM (Kd.R_lower ho0 (below_size (bl HB.out)));replace aD:=rB aD hb;replace aC:=rB aC hb;replace aA:=rB aA hb;replace HB:=rS HB hb;(repeat first|clear hb|clear ho0);have hcw_gb481_0:=cI aA.out 0;have hfw_gb481_0:=bF aA.out 0;have hcw_gb481_1:=cI aA.out 1;have hfw_gb481_1:=bF aA.out 1;have hcw_gb481_2:=cI aA.out 2;have hfw_gb481_2:=bF aA.out 2;have hcw_gb481_3:=cI aA.out 3;have hfw_gb481_3:=bF aA.out 3)|((with_reducible refine gD (N:=6) rfl ?_);refine bR aG (N:=6) (cs:=#[.int .i64 0,.int .i64 0,.int .i64 0,.slice none 0 0]) (t:=30) ?_;intro aI hg kA hbox hb;have aE:=aM (hbox);have cP:=gF hg HB;have bG:=nM hg aD;have bH:=nH hg aD;have bI:=nM hg aC;have bJ:=nH hg aC;have bK:=nM hg aA;have bL:=nH hg aA;replace aG:=rK aG hb;replace aD:=rB aD hb;replace aC:=rB aC hb;replace aA:=rB aA hb;replace HB:=rS HB hb;clear hb hbox hg;have iN:=bK.out;have iO:=cA4 aE.out;obtain ⟨cG,cH,eU⟩:=Kd.R_slice aG.out;subst eU;have iP:=aX.out;have iQ:=bA.out;have hcw_gb481_0:=cI aA.out 0;have hfw_gb481_0:=bF aA.out 0;have hcw_gb481_1:=cI aA.out 1;have hfw_gb481_1:=bF aA.out 1;have hcw_gb481_2:=cI aA.out 2;have hfw_gb481_2:=bF aA.out 2;have hcw_gb481_3:=cI aA.out 3;have hfw_gb481_3:=bF aA.out 3)|((with_reducible refine gD (N:=21) rfl ?_);refine (show ∀ {P:Program} {ops:Array Oper} {Q:Exit→Act→World→Prop} {rest:List Oper} {a:Act} {w:World} (C:World→Prop),C w→(∀ W,C W→wpList P ops Q rest a W)→wpList P ops Q rest a w from fun _ hC h=>h _ hC) (fun W=>W.heap[cL]?=some (.cells #[aK,.slice bU aH.length bV] 42 (0,0))∧W.heap[cN]?=some (.cells #[aT,aV,aW,.slice bW aJ.length bX] 30 (0,0))∧W.heap[aN]?=some (.cells #[.int .i64 0,.int .i64 0,.int .i64 0,.slice none 0 0] 30 (0,0))∧W.heap[aI]?=some (.cells #[bQ,bT,aQ,.slice cG bD.length cH] 30 (0,0))∧Kd.R (Kd.int .u8) 5 W w.heap.size (fun _=>True) (.slice cG bD.length cH) bD∧Below w.heap.size w W) ⟨fm aD.out,fm aC.out,fm aA.out,bm aE.out,by (with_reducible repeat (first|apply Kd.R_alloc|apply Kd.R_drewN|apply Kd.R_drew));exact Kd.R_mono (rT4 aG.out aE.out (.int .i64 bQ) (.int .i64 bT) (.int .i64 aQ) (.slice cG bD.length cH)) (fun _ hk=>trivial),bl HB.out⟩ ?_;intro W9 hW9;clear aD aC;clear aA aE;clear aG HB;have aD:=aM hW9.1;have aC:=aM hW9.2.1;have aA:=aM hW9.2.2.1;have aE:=aM hW9.2.2.2.1;have aG:=aM hW9.2.2.2.2.1;have HB:=aM hW9.2.2.2.2.2;clear hW9;have cQ:=cI aD.out 0;have cS:=cI aD.out 1;have dD:=cI aA.out 0;have dE:=bF aA.out 0;have dF:=cI aA.out 1;have dG:=bF aA.out 1;have dH:=cI aA.out 2;have dI:=bF aA.out 2;have dJ:=cI aA.out 3;have dK:=bF aA.out 3;have dL:=cI aE.out 0;have dN:=cI aE.out 1;have dP:=cI aE.out 2;have dQ:=bF aE.out 2;have dR:=cI aE.out 3)|((with_reducible refine gC (f:=43) rfl ?_);refine gL (some 28) Try.func43 #[.slice bU aH.length bV,aK] ?_;(with_reducible refine (Z39.calls eA _ _ aH aK true _ ?side1 ?side2 eP.out).mono ?_);(case side1=>exact cB bY.out (bl HB.out));(case side2=>exact bZ.out);rintro e w' ⟨rfl,⟨nd,rfl⟩⟩;refine ⟨_,rfl,?_⟩))
    refine bodyPost_ret (results_ct rfl _ _ aN 30 #[bQ,bT,aK,.slice cG bD.length cH] (0,0) _ rfl (bm aA.out) Try.underlying30 rfl (by kernel_rfl)) rfl ?_
    exact ⟨_,xW,by (with_reducible repeat (first|apply Kd.R_alloc|apply Kd.R_drewN|apply Kd.R_drew));exact Kd.R_mono (rF4 (g:=aN) (kF (p:=⟨aI,2,none⟩) (Kd.R_types (Kd.R_types aG.out aE.out (by decide)) aA.out (by decide)) (fun _ hk=>hk.1.2) (.int .i64 aK)) (fun _ hk=>hk.2) (.int .i64 bQ) (.int .i64 bT) (.int .i64 aK) (.slice cG bD.length cH)) (fun _ hk=>trivial),bl HB.out⟩
   replace eE:=Bool.eq_false_iff.mpr eE;subst eE;replace H:=hF H;simp only [Option.some.injEq,Prod.mk.injEq] at H;obtain ⟨rfl,rfl,rfl,rfl,rfl⟩:=H;have iX:=cA4 aC.out;go_wp2_with (first|((with_reducible refine gC (f:=42) rfl ?_);refine gL (some 17) Try.func42 #[.agg #[aT,aV,aW,.slice bW aJ.length bX]] ?_;(with_reducible refine (Z50.calls aT aV aW _ _ aJ bQ bT aQ bD _ ?side1 ?side2 eC.out).mono ?_);(case side1=>exact cM (cB cA.out HB.out));(case side2=>exact cC.out);rintro e kC ⟨dV,rfl,ho0,hb⟩;refine ⟨_,rfl,?_⟩;have aG:=aM (Kd.R_lower ho0 (below_size (bl HB.out)));replace aD:=rB aD hb;replace aC:=rB aC hb;replace aA:=rB aA hb;replace HB:=rS HB hb;(repeat first|clear hb|clear ho0);have hcw_gb481_0:=cI aA.out 0;have hfw_gb481_0:=bF aA.out 0;have hcw_gb481_1:=cI aA.out 1;have hfw_gb481_1:=bF aA.out 1;have hcw_gb481_2:=cI aA.out 2;have hfw_gb481_2:=bF aA.out 2;have hcw_gb481_3:=cI aA.out 3;have hfw_gb481_3:=bF aA.out 3)|((with_reducible refine gD (N:=6) rfl ?_);refine bR aG (N:=6) (cs:=#[.int .i64 0,.int .i64 0,.int .i64 0,.slice none 0 0]) (t:=30) ?_;intro aI hg kD hbox hb;have aE:=aM (hbox);have cP:=gF hg HB;have bG:=nM hg aD;have bH:=nH hg aD;have bI:=nM hg aC;have bJ:=nH hg aC;have bK:=nM hg aA;have bL:=nH hg aA;replace aG:=rK aG hb;replace aD:=rB aD hb;replace aC:=rB aC hb;replace aA:=rB aA hb;replace HB:=rS HB hb;clear hb hbox hg;have jD:=bK.out;have jE:=cA4 aE.out;obtain ⟨dY,dZ,eV⟩:=Kd.R_slice aG.out;subst eV;have jF:=aX.out;have jG:=bA.out;have hcw_gb481_0:=cI aA.out 0;have hfw_gb481_0:=bF aA.out 0;have hcw_gb481_1:=cI aA.out 1;have hfw_gb481_1:=bF aA.out 1;have hcw_gb481_2:=cI aA.out 2;have hfw_gb481_2:=bF aA.out 2;have hcw_gb481_3:=cI aA.out 3;have hfw_gb481_3:=bF aA.out 3)|((with_reducible refine gD (N:=21) rfl ?_);refine (show ∀ {P:Program} {ops:Array Oper} {Q:Exit→Act→World→Prop} {rest:List Oper} {a:Act} {w:World} (C:World→Prop),C w→(∀ W,C W→wpList P ops Q rest a W)→wpList P ops Q rest a w from fun _ hC h=>h _ hC) (fun W=>W.heap[cL]?=some (.cells #[aK,.slice bU aH.length bV] 42 (0,0))∧W.heap[cN]?=some (.cells #[aT,aV,aW,.slice bW aJ.length bX] 30 (0,0))∧W.heap[aN]?=some (.cells #[.int .i64 0,.int .i64 0,.int .i64 0,.slice none 0 0] 30 (0,0))∧W.heap[aI]?=some (.cells #[bQ,bT,aQ,.slice dY bD.length dZ] 30 (0,0))∧Kd.R (Kd.int .u8) 5 W w.heap.size (fun _=>True) (.slice dY bD.length dZ) bD∧Below w.heap.size w W) ⟨fm aD.out,fm aC.out,fm aA.out,bm aE.out,by (with_reducible repeat (first|apply Kd.R_alloc|apply Kd.R_drewN|apply Kd.R_drew));exact Kd.R_mono (rT4 aG.out aE.out (.int .i64 bQ) (.int .i64 bT) (.int .i64 aQ) (.slice dY bD.length dZ)) (fun _ hk=>trivial),bl HB.out⟩ ?_;intro W9 hW9;clear aD aC;clear aA aE;clear aG HB;have aD:=aM hW9.1;have aC:=aM hW9.2.1;have aA:=aM hW9.2.2.1;have aE:=aM hW9.2.2.2.1;have aG:=aM hW9.2.2.2.2.1;have HB:=aM hW9.2.2.2.2.2;clear hW9;have cQ:=cI aD.out 0;have cS:=cI aD.out 1;have dD:=cI aA.out 0;have dE:=bF aA.out 0;have dF:=cI aA.out 1;have dG:=bF aA.out 1;have dH:=cI aA.out 2;have dI:=bF aA.out 2;have dJ:=cI aA.out 3;have dK:=bF aA.out 3;have dL:=cI aE.out 0;have dN:=cI aE.out 1;have dP:=cI aE.out 2;have dQ:=bF aE.out 2;have dR:=cI aE.out 3)|((with_reducible refine gC (f:=43) rfl ?_);refine gL (some 28) Try.func43 #[.slice bU aH.length bV,aK] ?_;(with_reducible refine (Z39.calls eA _ _ aH aK false _ ?side1 ?side2 eP.out).mono ?_);(case side1=>exact cB bY.out (bl HB.out));(case side2=>exact bZ.out);rintro e w' ⟨rfl,⟨nd,rfl⟩⟩;refine ⟨_,rfl,?_⟩))
   refine bodyPost_ret (results_ct rfl _ _ aN 30 #[.int .i64 0,.int .i64 0,.int .i64 0,.slice none 0 0] (0,0) _ rfl (bm aA.out) Try.underlying30 rfl (by kernel_rfl)) rfl ?_
   exact ⟨_,xW,by exact Kd.R_nil _ _ _ _ _,bl HB.out⟩

def Z17.l0:Nat→Int→Int→List (S72)→Int→Int→Option (Int × Bool)
 | 0,_,_,_,_,_=>none
 | k+1,x1,x2,aC,aD,aA=>if aA<aD then (if 0≤aA then (if aA<(aC.length:Int) then (if ((rd_T72 aC aA).f0)=x1 then (if ((rd_T72 aC aA).f1)=x2 then (some ((rd_T72 aC aA).f2,true)) else (Z17.l0 k x1 x2 aC aD (wrap64 (aA+1)))) else (Z17.l0 k x1 x2 aC aD (wrap64 (aA+1)))) else (none)) else (none)) else (some (0,false))
def Z17.f (k:Nat) (l0:List (S72)) (a1 a2:Int):Option (Int × Bool):=Z17.l0 k a1 a2 l0 (l0.length:Int) 0
theorem Z17.mono_l:∀ k,(∀ y0 y1 y2 y3 y4,LeO (Z17.l0 k y0 y1 y2 y3 y4) (Z17.l0 (k+1) y0 y1 y2 y3 y4))
 | 0=>fun _ _ _ _ _ r h=>by simp [Z17.l0] at h
 | k+1=>by
  have ih0:=Z17.mono_l k
  ·intro y0 y1 y2 y3 y4
   unfold Z17.l0
   repeat' (with_reducible first|apply ih0|exact lR _|refine lI ?_ ?_)
theorem Z17.mono:∀ a0 a1 a2 k,LeO (Z17.f k a0 a1 a2) (Z17.f (k+1) a0 a1 a2):=by
 intro a0 a1 a2 k;have ih0:=Z17.mono_l k;unfold Z17.f
 repeat' (with_reducible apply ih0)
set_option maxHeartbeats 60000000 in
set_option maxRecDepth 100000 in
theorem Z17.calls (k:Nat) (A0:Option Addr) (c0:Nat) (l0:List (S72)) (a1 a2 r1:Int) (r2:Bool) (w:World) (hr0:Kd.C k72 w A0 l0.length l0) (hc0:l0.length≤c0) (h:Z17.f k l0 a1 a2=some (r1,r2)) :
  Calls Try.prog 12 #[.slice A0 l0.length c0,a1,a2] w fun e w'=>e=.returned (.tuple #[r1,r2])∧Below w.heap.size w w':=by
 have aX:=aM hr0;clear hr0 hc0;have HB:=aM (Below.refl w.heap.size w);have H:(Z17.l0 k a1 a2 l0 (l0.length:Int) 0)=some (r1,r2):=h;clear h;have H':=aM H;clear H;go_enter Try.func12,Try.ntmps12
 go_wp2
 go_loopg [12] k (fun kq bJ w'=>∃ (aA:Int),bJ=.int .i64 aA∧Aside0 (Z17.l0 kq a1 a2 l0 (l0.length:Int) aA=some (r1,r2))∧Aside0 (kq≤k)∧Aside0 (Below w.heap.size w w'))
 case atStart=>exact ⟨(0),xE,H',⟨Nat.le_refl _⟩,⟨bl HB.out⟩⟩
 case round =>
  clear H'
  repeat first|clear c1|clear p2
  obtain ⟨aA,rfl,HA,aN,HB⟩:=hrel;cases gk with
  | zero=>exact absurd HA.out (by simp [Z17.l0])
  | succ k1 =>
   have H:=HA.out;clear HA;simp only [Z17.l0] at H
   by_cases c4:aA<(l0.length:Int)
   case neg =>
    rw [if_neg c4] at H
    have bA:=decide_eq_false c4;clear c4;simp only [Option.some.injEq,Prod.mk.injEq] at H;obtain ⟨rfl,rfl⟩:=H;go_wp2
    go_ret2
    exact ⟨xW,bl HB.out⟩
   rw [if_pos c4] at H
   have bA:=decide_eq_true c4;clear c4;obtain ⟨bO,H⟩:=gI H;obtain ⟨bP,H⟩:=gI H
   by_cases c7:((rd_T72 l0 aA).f0)=a1
   case neg =>
    rw [if_neg c7] at H
    have bD:(((rd_T72 l0 aA).f0) == a1)=false:=beq_eq_false_iff_ne.mpr c7;have H':=aM H;clear H;have aH:0≤(aA:Int):=dT;have aI:aA<(l0.length:Int):=dT;obtain ⟨aQ,aK,aC,aD,aE,aG⟩:=at_T72 aX.out aA aH aI;cases aK
    replace aC:=xB HB aC;replace aD:=xB HB aD;replace aE:=xB HB aE;replace aG:=xB HB aG;replace aH:=eq_true aH;replace aI:=eq_true aI;go_wp2_with (((with_reducible refine gD (N:=9) rfl ?_);refine bE (N:=9) (cs:=#[.int .i64 0,.int .i64 0,.int .i64 0,.int .i64 0]) (t:=72) ?_;intro aT hg bT hbox hb;have aJ:=aM (hbox);have aW:=gF hg HB;replace HB:=rS HB hb;clear hb hbox hg;have bK:=cA4 aJ.out))
    go_roundg k1
    case measure=>have:=aN.out;omega
    case rel=>exact ⟨(wS aA),xE,H',⟨by have:=aN.out;omega⟩,⟨bl HB.out⟩⟩
   rw [if_pos c7] at H
   have bD:(((rd_T72 l0 aA).f0) == a1)=true:=beq_iff_eq.mpr c7;clear c7
   by_cases c8:((rd_T72 l0 aA).f1)=a2
   case pos =>
    rw [if_pos c8] at H
    have bH:(((rd_T72 l0 aA).f1) == a2)=true:=beq_iff_eq.mpr c8;clear c8;simp only [Option.some.injEq,Prod.mk.injEq] at H;obtain ⟨rfl,rfl⟩:=H;have aH:0≤(aA:Int):=dT;have aI:aA<(l0.length:Int):=dT;obtain ⟨aQ,aK,aC,aD,aE,aG⟩:=at_T72 aX.out aA aH aI;cases aK
    replace aC:=xB HB aC;replace aD:=xB HB aD;replace aE:=xB HB aE;replace aG:=xB HB aG;replace aH:=eq_true aH;replace aI:=eq_true aI;go_wp2_with (((with_reducible refine gD (N:=9) rfl ?_);refine bE (N:=9) (cs:=#[.int .i64 0,.int .i64 0,.int .i64 0,.int .i64 0]) (t:=72) ?_;intro aT hg w9 hbox hb;have aJ:=aM (hbox);have aW:=gF hg HB;replace HB:=rS HB hb;clear hb hbox hg;have bL:=cA4 aJ.out))
    go_ret2
    exact ⟨xW,bl HB.out⟩
   rw [if_neg c8] at H
   have bH:(((rd_T72 l0 aA).f1) == a2)=false:=beq_eq_false_iff_ne.mpr c8;have H':=aM H;clear H;have aH:0≤(aA:Int):=dT;have aI:aA<(l0.length:Int):=dT;obtain ⟨aQ,aK,aC,aD,aE,aG⟩:=at_T72 aX.out aA aH aI;cases aK
   replace aC:=xB HB aC;replace aD:=xB HB aD;replace aE:=xB HB aE;replace aG:=xB HB aG;replace aH:=eq_true aH;replace aI:=eq_true aI;go_wp2_with (((with_reducible refine gD (N:=9) rfl ?_);refine bE (N:=9) (cs:=#[.int .i64 0,.int .i64 0,.int .i64 0,.int .i64 0]) (t:=72) ?_;intro aT hg bU hbox hb;have aJ:=aM (hbox);have aW:=gF hg HB;replace HB:=rS HB hb;clear hb hbox hg;have bM:=cA4 aJ.out))
   go_roundg k1
   case measure=>have:=aN.out;omega
   case rel=>exact ⟨(wS aA),xE,H',⟨by have:=aN.out;omega⟩,⟨bl HB.out⟩⟩

def Z57.f (l0:List Bool):Option (List Bool):=(some (([]:List Bool):List Bool)).bind fun aA=>(if aA.length+l0.length<140737488355328 then (some (aA++l0)) else (none))
set_option maxHeartbeats 60000000 in
set_option maxRecDepth 100000 in
theorem Z57.calls (A0:Option Addr) (c0:Nat) (l0:List Bool) (r:List Bool) (w:World) (hr0:Kd.C Kd.bool w A0 l0.length l0) (hc0:l0.length≤c0) (h:Z57.f l0=some r) :
  Calls Try.prog 55 #[.slice A0 l0.length c0] w fun e w'=>∃ aJ:Value,e=.returned (aJ)∧Kd.R Kd.bool 4 w' w.heap.size (fun _=>True) aJ r∧Below w.heap.size w w':=by
 have qn:∀ (w:World) (a:Option Addr) (n c n' c':Nat),(binOp .eql 24 (.slice a n c) (.slice none n' c')).run Try.prog w=.ok (.bool a.isNone) w:=fun w a n c n' c'=>Lib.run_eql_slice_nil w _ _ a n c n' c' Try.underlying24
 by_cases hnil:A0=none
 ·have hl:l0=[]:=by
   have hc:=hr0.2.2;rw [hnil] at hc
   cases l0 with
   | nil=>rfl
   | cons x t=>obtain ⟨_,hx,_⟩:=hc (by simp);cases hx
  subst hnil;subst hl;have hr:r=[]:=by simpa [Z57.f] using h.symm
  subst hr;clear hr0 h;go_enter Try.func55,Try.ntmps55
  go_wp2
  go_ret
  exact ⟨_,rfl,Kd.R_nil _ _ _ _ _,Below.refl _ _⟩
 have hsome:A0.isNone=false:=by cases A0 <;> simp at hnil ⊢
 clear hnil;have aQ:=aM hr0;clear hr0 hc0;have HB:=aM (Below.refl w.heap.size w);have H:((some (([]:List Bool):List Bool)).bind fun aC=>(if aC.length+l0.length<140737488355328 then (some (aC++l0)) else (none)))=some r:=h
 clear h;obtain ⟨aC,aE,H⟩:=hS H;have aG:=aM aE;clear aE
 by_cases c2:aC.length+l0.length<140737488355328
 case neg =>
  rw [if_neg c2] at H
  exact absurd H (by simp)
 rw [if_pos c2] at H
 have LMc2:=aM c2;clear c2;obtain ⟨aK,aA⟩:∃ y_:List Bool,y_=(aC++l0):=⟨_,rfl⟩;replace H:(some aK)=some r:=by (rw [aA];with_reducible exact H)
 have aH:=aM aA;clear aA;obtain rfl:=Option.some.inj H;go_enter Try.func55,Try.ntmps55
 go_wp2_with (first|((with_reducible refine gD (N:=5) rfl ?_);refine Kd.R_lit Kd.bool _ 4 ?hg (N:=5) ?hd (xs:=([]:List Bool)) (inner:=[]) (ok:=fun _=>True) (okp:=fun _=>True) ?hr ?hp (fun _ hk=>hk) trivial (Below.refl _ _) (Nat.le_refl _) (by simp) ?_;(case hd=>rfl);(case hg=>rfl);(case hr=>(go_simp;done));(case hp=>exact (Reps.none _ _));intro aN w3 ho4 hb hg_ hnew_;clear hg_ hnew_;(rw [← aG.out] at ho4);have aD:=aM (Kd.R_lower ho4 (below_size (bl HB.out)));replace HB:=rS HB hb;clear hb ho4)|((with_reducible refine gate_builtin (b:=.append) (xs:=#[.tmp 5,.tmp 6]) rfl ?_);at_builtin;refine Kd.R_append_rows Kd.bool (w0:=w) w.heap.size rfl (.tmp 5) (.tmp 6) 24 4 (.bool false) 1 rfl Try.underlying24 info4 rfl (by decide) (by omega) aN aC l0 _ _ _ (fun _=>True) (fun _=>False) rfl rfl ?aO ?aR (fun _ _ h=>h) (fun _ h=>h.elim) ?aF ?aB ?aS ?aL ?_;(case aR=>repeat (exact (cB aQ.out HB.out)));(case aB=>exact (bl HB.out));(case aF=>exact (fun _ _=>trivial));(case aO=>exact (kr aD.out));(case aS=>exact (below_size (bl HB.out)));(case aL=>have:=LMc2.out;omega);intro aT w5 ho hb hg hat;rw [← aH.out] at ho;have aI:=aM (ho);replace HB:=aM (hb);clear aD;clear ho hb hg hat))
 go_ret
 exact ⟨_,xW,by (with_reducible repeat (first|apply Kd.R_alloc|apply Kd.R_drewN|apply Kd.R_drew));exact aI.out,bl HB.out⟩

end Go.Proofs.Ytjodolkdelffaaa.PFnCards
