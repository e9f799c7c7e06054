/- A part of the proof of laws.FnCards. No condition beyond what its theorems say. -/
import Derived.Lib.AppendZerosOnto
import Derived.Test.YtjodolkdelffaaaVFnCardsPx8
namespace Go.Proofs.Ytjodolkdelffaaa.PFnCards
open Go.RowKit Go.Proofs.YtjodolkdelffaaaW.PrintWords Go.Proofs.YtjodolkdelffaaaW.PrintLast Go.Proofs.YtjodolkdelffaaaW.PrintMore
set_option linter.unusedVariables false
set_option linter.unusedSimpArgs false

def Z59.f (aA:List Bool) (aD:List (S42)) (aE:List (S72)) (a1:Int):Option (Bool):=(Z23.f a1 0 (wrap64 ((aA.length:Int) - 1))).bind fun aC=>(if aC=true then (if 0≤a1 then (if a1<(aA.length:Int) then (some (rdOf false aA a1)) else (none)) else (none)) else (some false))
set_option maxHeartbeats 60000000 in
set_option maxRecDepth 100000 in
theorem Z59.calls (aG:Option Addr) (aH:Nat) (aA:List Bool) (aI:Option Addr) (aJ:Nat) (aC:List (S42)) (aK:Option Addr) (aN:Nat) (aD:List (S72)) (a1:Int) (r:Bool) (w:World) (hr0_0:Kd.C Kd.bool w aG aA.length aA) (hc0_0:aA.length≤aH) (hr0_1:Kd.C k42 w aI aC.length aC) (hc0_1:aC.length≤aJ) (hr0_2:Kd.C k72 w aK aD.length aD) (hc0_2:aD.length≤aN) (h:Z59.f aA aC aD a1=some r) :
  Calls Try.prog 27 #[.agg #[.slice aG aA.length aH,.slice aI aC.length aJ,.slice aK aD.length aN],a1] w fun e w'=>e=.returned (.bool r)∧Below w.heap.size w w':=by
 have aX:=aM hr0_0;clear hr0_0 hc0_0;clear hr0_1 hc0_1;clear hr0_2 hc0_2;have HB:=aM (Below.refl w.heap.size w);have H:((Z23.f a1 0 (wrap64 ((aA.length:Int) - 1))).bind fun aT=>(if aT=true then (if 0≤a1 then (if a1<(aA.length:Int) then (some (rdOf false aA a1)) else (none)) else (none)) else (some false)))=some r:=h
 clear h;obtain ⟨aT,bH,H⟩:=hB H;have A3:=aM bH;clear bH
 by_cases c4:aT=true
 case neg =>
  replace c4:=Bool.eq_false_iff.mpr c4;subst c4;replace H:=hF H;obtain rfl:=Option.some.inj H;go_enter Try.func27,Try.ntmps27
  go_wp2_with (first|((with_reducible refine gD (N:=2) rfl ?_);refine bE (N:=2) (cs:=#[.slice aG aA.length aH,.slice aI aC.length aJ,.slice aK aD.length aN]) (t:=28) ?_;intro bA hg w9 hbox hb;have aQ:=aM (hbox);replace HB:=rS HB hb;clear hb hbox hg;have bO:=cA3 aQ.out)|((with_reducible refine gC (f:=40) rfl ?_);refine gL (some 10) Try.func40 #[a1,.int .i64 0,.int .i64 (wrap64 ((aA.length:Int) - 1))] ?_;(with_reducible refine (Z23.calls a1 0 (wrap64 ((aA.length:Int) - 1)) false _ A3.out).mono ?_);rintro e w' ⟨rfl,⟨nd,rfl⟩⟩;refine ⟨_,rfl,?_⟩))
  go_ret
  exact ⟨xW,bl HB.out⟩
 subst c4;replace H:=hP H rfl;obtain ⟨bT,H⟩:=gI H;obtain ⟨bU,H⟩:=gI H;obtain rfl:=Option.some.inj H;go_enter Try.func27,Try.ntmps27
 go_wp2_with (first|((with_reducible refine gD (N:=2) rfl ?_);refine bE (N:=2) (cs:=#[.slice aG aA.length aH,.slice aI aC.length aJ,.slice aK aD.length aN]) (t:=28) ?_;intro bA hg w7 hbox hb;have aQ:=aM (hbox);replace HB:=rS HB hb;clear hb hbox hg;have bV:=cA3 aQ.out)|((with_reducible refine gC (f:=40) rfl ?_);refine gL (some 10) Try.func40 #[a1,.int .i64 0,.int .i64 (wrap64 ((aA.length:Int) - 1))] ?_;(with_reducible refine (Z23.calls a1 0 (wrap64 ((aA.length:Int) - 1)) true _ A3.out).mono ?_);rintro e w' ⟨rfl,⟨nd,rfl⟩⟩;refine ⟨_,rfl,?_⟩;have aV:0≤(a1:Int):=dT;have aW:a1<(aA.length:Int):=dT;obtain ⟨bP,bI,aE⟩:=Kd.at_bool aX.out a1 aV aW;cases bI;replace aE:=(HB.out.cell (World.block_lt_of_cell? w _ aE)).trans aE;replace aV:=eq_true aV;replace aW:=eq_true aW))
 go_ret
 exact ⟨xW,bl HB.out⟩

def Z21.l0:Nat→Int→Int→List (S72)→List (S72)→Int→Int→Option ((List (S72)))
 | 0,_,_,_,_,_,_=>none
 | k+1,x1,x2,x7,aC,aD,aA=>if aA<aD then (if 0≤aA then (if aA<(aC.length:Int) then (if ((rd_T72 aC aA).f0)=x1 then (if ((rd_T72 aC aA).f1)=x2 then (Z21.l0 k x1 x2 x7 aC aD (wrap64 (aA+1))) else (if x7.length<4398046511104 then (Z21.l0 k x1 x2 (x7++[(⟨(rd_T72 aC aA).f0,(rd_T72 aC aA).f1,(rd_T72 aC aA).f2,(rd_T72 aC aA).f3⟩:S72)]) aC aD (wrap64 (aA+1))) else (none))) else (if x7.length<4398046511104 then (Z21.l0 k x1 x2 (x7++[(⟨(rd_T72 aC aA).f0,(rd_T72 aC aA).f1,(rd_T72 aC aA).f2,(rd_T72 aC aA).f3⟩:S72)]) aC aD (wrap64 (aA+1))) else (none))) else (none)) else (none)) else (some x7)
def Z21.f (k:Nat) (l0:List (S72)) (a1 a2:Int):Option ((List (S72))):=Z21.l0 k a1 a2 ([]:List (S72)) l0 (l0.length:Int) 0
theorem Z21.mono_l:∀ k,(∀ y0 y1 y2 y3 y4 y5,LeO (Z21.l0 k y0 y1 y2 y3 y4 y5) (Z21.l0 (k+1) y0 y1 y2 y3 y4 y5))
 | 0=>fun _ _ _ _ _ _ r h=>by simp [Z21.l0] at h
 | k+1=>by
  have ih0:=Z21.mono_l k
  ·intro y0 y1 y2 y3 y4 y5
   unfold Z21.l0
   repeat' (with_reducible first|apply ih0|exact lR _|refine lI ?_ ?_)
theorem Z21.mono:∀ a0 a1 a2 k,LeO (Z21.f k a0 a1 a2) (Z21.f (k+1) a0 a1 a2):=by
 intro a0 a1 a2 k;have ih0:=Z21.mono_l k;unfold Z21.f
 repeat' (with_reducible apply ih0)
set_option maxHeartbeats 60000000 in
set_option maxRecDepth 100000 in
theorem Z21.calls (k:Nat) (A0:Option Addr) (c0:Nat) (l0:List (S72)) (a1 a2:Int) (r:List (S72)) (w:World) (hr0:Kd.C k72 w A0 l0.length l0) (hc0:l0.length≤c0) (h:Z21.f k l0 a1 a2=some r) :
  Calls Try.prog 59 #[.slice A0 l0.length c0,a1,a2] w fun e w'=>∃ bQ:Value,e=.returned (bQ)∧Kd.R k72 72 w' w.heap.size (fun _=>True) bQ r∧Below w.heap.size w w':=by
 have bJ:=aM hr0;clear hr0 hc0;have HB:=aM (Below.refl w.heap.size w);have H:(Z21.l0 k a1 a2 ([]:List (S72)) l0 (l0.length:Int) 0)=some r:=h;clear h;have H':=aM H;clear H;go_enter Try.func59,Try.ntmps59
 go_wp2
 go_loopg [7,12] k (fun kq v7 bY w'=>∃ (aQ:List (S72)) (aA:Int),bY=.int .i64 aA∧Aside0 (Z21.l0 kq a1 a2 aQ l0 (l0.length:Int) aA=some r)∧Aside0 (kq≤k)∧Aside0 (Kd.R k72 72 w' w.heap.size (fun _=>True) v7 aQ)∧Aside0 (Below w.heap.size w w'))
 case atStart=>exact ⟨(([]:List (S72))),(0),xE,H',⟨Nat.le_refl _⟩,⟨by exact Kd.R_nil _ _ _ _ _⟩,⟨bl HB.out⟩⟩
 case round =>
  clear H'
  obtain ⟨aQ,aA,rfl,HA,aX,aD,HB⟩:=hrel;cases gk with
  | zero=>exact absurd HA.out (by simp [Z21.l0])
  | succ k1 =>
   have H:=HA.out;clear HA;simp only [Z21.l0] at H
   by_cases c4:aA<(l0.length:Int)
   case neg =>
    rw [if_neg c4] at H
    have bT:=decide_eq_false c4;clear c4;obtain rfl:=Option.some.inj H;go_wp2
    go_ret
    exact ⟨_,xW,by (with_reducible repeat (first|apply Kd.R_alloc|apply Kd.R_drewN|apply Kd.R_drew));exact aD.out,bl HB.out⟩
   rw [if_pos c4] at H
   have bT:=decide_eq_true c4;clear c4;obtain ⟨cE,H⟩:=gI H;obtain ⟨cG,H⟩:=gI H
   by_cases c7:((rd_T72 l0 aA).f0)=a1
   case neg =>
    rw [if_neg c7] at H
    have bV:(((rd_T72 l0 aA).f0) != a1)=true:=bne_iff_ne.mpr c7
    by_cases bA:aQ.length<4398046511104
    case neg =>
     rw [if_neg bA] at H
     exact absurd H (by simp)
    rw [if_pos bA] at H
    have LMc15:=aM bA;clear bA;obtain ⟨bK,aT⟩:∃ y_:List (S72),y_=(aQ++[(⟨(rd_T72 l0 aA).f0,(rd_T72 l0 aA).f1,(rd_T72 l0 aA).f2,(rd_T72 l0 aA).f3⟩:S72)]):=⟨_,rfl⟩;replace H:(Z21.l0 k1 a1 a2 bK l0 (l0.length:Int) (wS aA))=some r:=by (rw [aT];with_reducible exact H)
    have bM:=aM aT;clear aT;have H':=aM H;clear H;have aK:0≤(aA:Int):=dT;have aN:aA<(l0.length:Int):=dT;obtain ⟨bD,aW,aE,aG,aH,aI⟩:=at_T72 bJ.out aA aK aN;cases aW
    replace aE:=xB HB aE;replace aG:=xB HB aG;replace aH:=xB HB aH;replace aI:=xB HB aI;replace aK:=eq_true aK;replace aN:=eq_true aN;go_wp2_with (first|((with_reducible refine gD (N:=9) rfl ?_);refine bR aD (N:=9) (cs:=#[.int .i64 0,.int .i64 0,.int .i64 0,.int .i64 0]) (t:=72) ?_;intro aC hg cN hbox hb;have aJ:=aM (hbox);have bH:=gF hg HB;replace aD:=aM (kB (Kd.R_elderB (kr aD.out) aC (Nat.le_of_eq hg.symm)) hb);replace HB:=rS HB hb;clear hb hbox hg;have bZ:=cA4 aJ.out)|((with_reducible refine gate_builtin (b:=.append) (xs:=#[.tmp 26,.tmp 28]) rfl ?_);at_builtin;refine Kd.R_append k72 (w0:=w) w.heap.size rfl (.tmp 26) (.tmp 28) 26 72 (.agg #[(.int .i64 0),(.int .i64 0),(.int .i64 0),(.int .i64 0)]) 32 rfl Try.underlying26 info72 rfl (by decide) (by omega) u7 aQ (⟨(rd_T72 l0 aA).f0,(rd_T72 l0 aA).f1,(rd_T72 l0 aA).f2,(rd_T72 l0 aA).f3⟩:S72) [.int .i64 ((rd_T72 l0 aA).f0),.int .i64 ((rd_T72 l0 aA).f1),.int .i64 ((rd_T72 l0 aA).f2),.int .i64 ((rd_T72 l0 aA).f3)] (fun k_=>k_≠aC) (fun _=>False) rfl (by (go_simp;done)) ?aP (fun _ hk=>hk.elim) ?aF ?aO ?aB ?aS ?aL ?_;(case aP=>exact k72_mkM _ _ _ (⟨(rd_T72 l0 aA).f0,(rd_T72 l0 aA).f1,(rd_T72 l0 aA).f2,(rd_T72 l0 aA).f3⟩:S72));(case aB=>exact (bl HB.out));(case aF=>exact (fun k_ hk=>Kd.freshB (g:=aC) (o:=.cells #[((rd_T72 l0 aA).f0),((rd_T72 l0 aA).f1),((rd_T72 l0 aA).f2),((rd_T72 l0 aA).f3)] 72 (0,0)) (bm aJ.out) k_ hk));(case aO=>exact (kr (Kd.R_mono (rF4 (g:=aC) (Kd.R_mono aD.out (fun k_ hk=>(⟨hk,hk.2⟩:_∧k_≠aC))) (fun _ hk=>hk.2) (.int .i64 ((rd_T72 l0 aA).f0)) (.int .i64 ((rd_T72 l0 aA).f1)) (.int .i64 ((rd_T72 l0 aA).f2)) (.int .i64 ((rd_T72 l0 aA).f3))) (fun _ hk=>hk.1.2))));(case aS=>exact (below_size (bl HB.out)));(case aL=>have:=LMc15.out;omega);intro cH cO ho hb hg hat;rw [← bM.out] at ho;have bN:=aM (ho);replace aJ:=aM (blk_grown (g:=aC) (o:=.cells #[((rd_T72 l0 aA).f0),((rd_T72 l0 aA).f1),((rd_T72 l0 aA).f2),((rd_T72 l0 aA).f3)] 72 (0,0)) (bm aJ.out) hg (Kd.R_away aD.out (fun _ hk=>hk.2)));replace HB:=aM (hb);clear aD;clear ho hb hg hat))
    go_roundg k1
    case measure=>have:=aX.out;omega
    case rel=>exact ⟨(bK),(wS aA),xE,H',⟨by have:=aX.out;omega⟩,⟨kr (Kd.R_mono bN.out (fun _ hk=>trivial))⟩,⟨bl HB.out⟩⟩
   rw [if_pos c7] at H
   have bV:(((rd_T72 l0 aA).f0) != a1)=false:=bne_eq_false_iff_eq.mpr c7;clear c7
   by_cases c8:((rd_T72 l0 aA).f1)=a2
   case pos =>
    rw [if_pos c8] at H
    have bX:(((rd_T72 l0 aA).f1) != a2)=false:=bne_eq_false_iff_eq.mpr c8;clear c8;have H':=aM H;clear H;have aK:0≤(aA:Int):=dT;have aN:aA<(l0.length:Int):=dT;obtain ⟨bD,aW,aE,aG,aH,aI⟩:=at_T72 bJ.out aA aK aN;cases aW
    replace aE:=xB HB aE;replace aG:=xB HB aG;replace aH:=xB HB aH;replace aI:=xB HB aI;replace aK:=eq_true aK;replace aN:=eq_true aN;go_wp2_with (((with_reducible refine gD (N:=9) rfl ?_);refine bR aD (N:=9) (cs:=#[.int .i64 0,.int .i64 0,.int .i64 0,.int .i64 0]) (t:=72) ?_;intro aC hg w9 hbox hb;have aJ:=aM (hbox);have bH:=gF hg HB;replace aD:=aM (kB (Kd.R_elderB (kr aD.out) aC (Nat.le_of_eq hg.symm)) hb);replace HB:=rS HB hb;clear hb hbox hg;have cA:=cA4 aJ.out))
    go_roundg k1
    case measure=>have:=aX.out;omega
    case rel=>exact ⟨(aQ),(wS aA),xE,H',⟨by have:=aX.out;omega⟩,⟨kr (Kd.R_mono (rF4 (g:=aC) (Kd.R_mono aD.out (fun k_ hk=>(⟨hk,hk.2⟩:_∧k_≠aC))) (fun _ hk=>hk.2) (.int .i64 ((rd_T72 l0 aA).f0)) (.int .i64 ((rd_T72 l0 aA).f1)) (.int .i64 ((rd_T72 l0 aA).f2)) (.int .i64 ((rd_T72 l0 aA).f3))) (fun _ hk=>trivial))⟩,⟨bl HB.out⟩⟩
   rw [if_neg c8] at H
   have bX:(((rd_T72 l0 aA).f1) != a2)=true:=bne_iff_ne.mpr c8
   by_cases bI:aQ.length<4398046511104
   case neg =>
    rw [if_neg bI] at H
    exact absurd H (by simp)
   rw [if_pos bI] at H
   have LMc11:=aM bI;clear bI;obtain ⟨bL,aV⟩:∃ y_:List (S72),y_=(aQ++[(⟨(rd_T72 l0 aA).f0,(rd_T72 l0 aA).f1,(rd_T72 l0 aA).f2,(rd_T72 l0 aA).f3⟩:S72)]):=⟨_,rfl⟩;replace H:(Z21.l0 k1 a1 a2 bL l0 (l0.length:Int) (wS aA))=some r:=by (rw [aV];with_reducible exact H)
   have bO:=aM aV;clear aV;have H':=aM H;clear H;have aK:0≤(aA:Int):=dT;have aN:aA<(l0.length:Int):=dT;obtain ⟨bD,aW,aE,aG,aH,aI⟩:=at_T72 bJ.out aA aK aN;cases aW
   replace aE:=xB HB aE;replace aG:=xB HB aG;replace aH:=xB HB aH;replace aI:=xB HB aI;replace aK:=eq_true aK;replace aN:=eq_true aN;go_wp2_with (first|((with_reducible refine gD (N:=9) rfl ?_);refine bR aD (N:=9) (cs:=#[.int .i64 0,.int .i64 0,.int .i64 0,.int .i64 0]) (t:=72) ?_;intro aC hg cP hbox hb;have aJ:=aM (hbox);have bH:=gF hg HB;replace aD:=aM (kB (Kd.R_elderB (kr aD.out) aC (Nat.le_of_eq hg.symm)) hb);replace HB:=rS HB hb;clear hb hbox hg;have cC:=cA4 aJ.out)|((with_reducible refine gate_builtin (b:=.append) (xs:=#[.tmp 26,.tmp 28]) rfl ?_);at_builtin;refine Kd.R_append k72 (w0:=w) w.heap.size rfl (.tmp 26) (.tmp 28) 26 72 (.agg #[(.int .i64 0),(.int .i64 0),(.int .i64 0),(.int .i64 0)]) 32 rfl Try.underlying26 info72 rfl (by decide) (by omega) u7 aQ (⟨(rd_T72 l0 aA).f0,(rd_T72 l0 aA).f1,(rd_T72 l0 aA).f2,(rd_T72 l0 aA).f3⟩:S72) [.int .i64 ((rd_T72 l0 aA).f0),.int .i64 ((rd_T72 l0 aA).f1),.int .i64 ((rd_T72 l0 aA).f2),.int .i64 ((rd_T72 l0 aA).f3)] (fun k_=>k_≠aC) (fun _=>False) rfl (by (go_simp;done)) ?aP (fun _ hk=>hk.elim) ?aF ?aO ?aB ?aS ?aL ?_;(case aP=>exact k72_mkM _ _ _ (⟨(rd_T72 l0 aA).f0,(rd_T72 l0 aA).f1,(rd_T72 l0 aA).f2,(rd_T72 l0 aA).f3⟩:S72));(case aB=>exact (bl HB.out));(case aF=>exact (fun k_ hk=>Kd.freshB (g:=aC) (o:=.cells #[((rd_T72 l0 aA).f0),((rd_T72 l0 aA).f1),((rd_T72 l0 aA).f2),((rd_T72 l0 aA).f3)] 72 (0,0)) (bm aJ.out) k_ hk));(case aO=>exact (kr (Kd.R_mono (rF4 (g:=aC) (Kd.R_mono aD.out (fun k_ hk=>(⟨hk,hk.2⟩:_∧k_≠aC))) (fun _ hk=>hk.2) (.int .i64 ((rd_T72 l0 aA).f0)) (.int .i64 ((rd_T72 l0 aA).f1)) (.int .i64 ((rd_T72 l0 aA).f2)) (.int .i64 ((rd_T72 l0 aA).f3))) (fun _ hk=>hk.1.2))));(case aS=>exact (below_size (bl HB.out)));(case aL=>have:=LMc11.out;omega);intro cK cQ ho hb hg hat;rw [← bO.out] at ho;have bP:=aM (ho);replace aJ:=aM (blk_grown (g:=aC) (o:=.cells #[((rd_T72 l0 aA).f0),((rd_T72 l0 aA).f1),((rd_T72 l0 aA).f2),((rd_T72 l0 aA).f3)] 72 (0,0)) (bm aJ.out) hg (Kd.R_away aD.out (fun _ hk=>hk.2)));replace HB:=aM (hb);clear aD;clear ho hb hg hat))
   go_roundg k1
   case measure=>have:=aX.out;omega
   case rel=>exact ⟨(bL),(wS aA),xE,H',⟨by have:=aX.out;omega⟩,⟨kr (Kd.R_mono bP.out (fun _ hk=>trivial))⟩,⟨bl HB.out⟩⟩

def Z56.f (l0:List (S72)) (a1:Int):Option (List (S72)):=if 0≤a1∧a1≤1099511627776 then some [] else none
theorem Z56.rowAt (w:World) (c:Array Value) (e:Nat):(w.alloc (.cells c e)).drew.heap[w.heap.size]?=some (.cells c e):=by
 show (w.heap.push (.cells c e))[w.heap.size]?=_
 simp
set_option maxHeartbeats 60000000 in
set_option maxRecDepth 100000 in
theorem Z56.calls (a1:Int) (r:List (S72)) (w:World) (h:Z56.f [] a1=some r) :
  Calls Try.prog 71 #[.slice none 0 0,a1] w fun e w'=>∃ aA:Value,e=.returned (aA)∧Kd.R k72 72 w' w.heap.size (fun _=>True) aA r∧Below w.heap.size w w':=by
 unfold Z56.f at h
 by_cases hb:0≤a1∧a1≤1099511627776
 case neg=>rw [if_neg hb] at h;cases h
 rw [if_pos hb] at h
 obtain rfl:=Option.some.inj h;obtain ⟨n,rfl⟩:=Int.eq_ofNat_of_zero_le hb.1;have hn:n≤1099511627776:=by omega
 clear h hb
 by_cases h0:n=0
 case pos =>
  subst h0;go_enter Try.func71,Try.ntmps71
  go_wp2
  go_ret
  exact ⟨_,rfl,Kd.R_nil _ _ _ _ _,Below.refl _ _⟩
 obtain ⟨i0,hi0,hzz⟩:=Option.map_eq_some_iff.1 info72;simp only [Prod.mk.injEq] at hzz;obtain ⟨hz0,hz1,hz2⟩:=hzz;have h1:¬ ((n:Int)<0):=by omega
 have h3:wrap64 (n:Int)=(n:Int):=by unfold wrap64;omega
 have h4:(n:Int) > 0:=by omega
 have hold:(Builtin.firstCells i0.size 0 (.slice none 0 0)).run Try.prog w.drew=.ok ([]:List Value).toArray w.drew:=run_firstCells_none w.drew i0.size 0 0 0;have hrz:∀ ty,(Builtin.append_ #[26,3] ty #[.slice none 0 0,.int .i64 (n:Int)]).run Try.prog w=.ok _ _:=fun ty =>
  Lib.run_append_grow_zeros w 26 3 ty 72 i0 _ .i64 .i64 Try.underlying26 Try.underlying3 hi0 hz0 none 0 0 [] hold n (by omega) (by omega) (by omega) (by omega) (by rw [hz2];omega)
   (growslice_fits (by omega) (by rw [hz2];omega))
 obtain ⟨G,hG⟩:∃ G,G=grownCap w (0+n) 0 72:=⟨_,rfl⟩;have hGn:0+n≤G:=hG ▸ grownCap_ge w _ _ _;have hGm:G≤maxLen:=hG ▸ grownCap_le_maxLen w (0+n) 0 72 (by unfold maxLen;omega)
 rw [← hG] at hrz
 clear hG hold;go_enter Try.func71,Try.ntmps71
 go_wp2_with (at_builtin;refine Lib.wpList_append_run _ rfl _ _ _ _ rfl _ _ rfl rfl _ _ (hrz _) ?_)
 all_goals (go_ret;refine ⟨_,rfl,⟨fun _ _=>trivial,[],⟨rfl,Or.inr ⟨w.heap.size,G,_,rfl,Nat.le_refl _,Z56.rowAt w _ _,Nat.zero_le _,hGm,?_,by simp⟩⟩,Reps.none _ _⟩,Below.drew (Below.alloc (Below.refl _ _) (Nat.le_refl _) _)⟩)
 all_goals (simp only [Array.size_append,size_zeroCells,List.size_toArray,List.length_cons,List.length_nil];show _=G*4;omega)

mutual
def Z6.l0:Nat→List (List (S72))→Int→List (List (S72))→Int→Int→Option ((List (S72)))
 | 0,_,_,_,_,_=>none
 | k+1,x0,x3,x9,aC,aA=>if aA<aC then (if 0≤aA then (if aA<(x9.length:Int) then (if (wrap64 (x3+((rd_L6 x9 aA).length:Int)))<0 then (none) else (Z6.l0 k x0 (wrap64 (x3+((rd_L6 x9 aA).length:Int))) x9 aC (wrap64 (aA+1)))) else (none)) else (none)) else ((Z56.f ([]:List (S72)) x3).bind fun aD=>(Z6.l1 k aD x0 (x0.length:Int) 0))
def Z6.l1:Nat→List (S72)→List (List (S72))→Int→Int→Option ((List (S72)))
 | 0,_,_,_,_=>none
 | k+1,x6,aC,aD,aA=>if aA<aD then (if 0≤aA then (if aA<(aC.length:Int) then (if x6.length+(rd_L6 aC aA).length<4398046511104 then (Z6.l1 k (x6++(rd_L6 aC aA)) aC aD (wrap64 (aA+1))) else (none)) else (none)) else (none)) else (some x6)
end
def Z6.f (k:Nat) (l0:List (List (S72))):Option ((List (S72))):=Z6.l0 k l0 0 l0 (l0.length:Int) 0
theorem Z6.mono_l:∀ k,(∀ y0 y1 y2 y3 y4,LeO (Z6.l0 k y0 y1 y2 y3 y4) (Z6.l0 (k+1) y0 y1 y2 y3 y4))∧(∀ y0 y1 y2 y3,LeO (Z6.l1 k y0 y1 y2 y3) (Z6.l1 (k+1) y0 y1 y2 y3))
 | 0=>by refine ⟨?_,?_⟩ <;> intros <;> intro r h <;> simp [Z6.l0,Z6.l1] at h
 | k+1=>by
  obtain ⟨ih0,ih1⟩:=Z6.mono_l k;refine ⟨?_,?_⟩
  ·intro y0 y1 y2 y3 y4
   unfold Z6.l0
   repeat' (with_reducible first|apply ih0|apply ih1|exact lR _|refine lI ?_ ?_|refine lB ?_ fun _=>?_)
  ·intro y0 y1 y2 y3
   unfold Z6.l1
   repeat' (with_reducible first|apply ih1|exact lR _|refine lI ?_ ?_)
theorem Z6.mono:∀ a0 k,LeO (Z6.f k a0) (Z6.f (k+1) a0):=by
 intro a0 k;obtain ⟨ih0,ih1⟩:=Z6.mono_l k;unfold Z6.f
 repeat' (with_reducible apply ih0)
set_option maxHeartbeats 60000000 in
set_option maxRecDepth 100000 in
theorem Z6.calls (k:Nat) (A0:Option Addr) (c0:Nat) (l0:List (List (S72))) (r:List (S72)) (w:World) (hr0:Kd.C (Kd.slice 72 k72) w A0 l0.length l0) (hc0:l0.length≤c0) (h:Z6.f k l0=some r) :
  Calls Try.prog 60 #[.slice A0 l0.length c0] w fun e w'=>∃ bK:Value,e=.returned (bK)∧Kd.R k72 72 w' w.heap.size (fun _=>True) bK r∧Below w.heap.size w w':=by
 have bL:=aM hr0;clear hr0 hc0;have HB:=aM (Below.refl w.heap.size w);have H:(Z6.l0 k l0 0 l0 (l0.length:Int) 0)=some r:=h;clear h;have H':=aM H;clear H;go_enter Try.func60,Try.ntmps60
 go_wp2
 go_loopg [3,11] k (fun kq v3 bZ w'=>∃ (aD:Int) (aC:Int),v3=.int .i64 aD∧bZ=.int .i64 aC∧Aside0 (Z6.l0 kq l0 aD l0 (l0.length:Int) aC=some r)∧Aside0 (kq≤k)∧Aside0 (Below w.heap.size w w'))
 case atStart=>exact ⟨(0),(0),xE,xE,H',⟨Nat.le_refl _⟩,⟨bl HB.out⟩⟩
 case round =>
  clear H';obtain ⟨aD,aC,rfl,rfl,HA,aV,HB⟩:=hrel;cases gk with
  | zero=>exact absurd HA.out (by simp [Z6.l0])
  | succ k1 =>
   have H:=HA.out;clear HA;simp only [Z6.l0] at H
   by_cases c2:aC<(l0.length:Int)
   case pos =>
    rw [if_pos c2] at H
    have bA:=decide_eq_true c2;clear c2;obtain ⟨bO,H⟩:=gI H;obtain ⟨bP,H⟩:=gI H
    by_cases c5:(wrap64 (aD+((rd_L6 l0 aC).length:Int)))<0
    case pos =>
     rw [if_pos c5] at H
     exact absurd H (by simp)
    rw [if_neg c5] at H
    have bQ:=decide_eq_false c5;clear c5;have H':=aM H;clear H;have aJ:0≤(aC:Int):=dT;have aK:aC<(l0.length:Int):=dT;obtain ⟨cH,cA,cC,bT,aH,hl544_0,hi544_0⟩:=at_L6 bL.out aC aJ aK;cases bT
    replace aH:=xB HB aH;clear hi544_0 hl544_0;replace aJ:=eq_true aJ;replace aK:=eq_true aK;go_wp2
    go_roundg k1
    case measure=>have:=aV.out;omega
    case rel=>exact ⟨(wrap64 (aD+((rd_L6 l0 aC).length:Int))),(wS aC),xE,xE,H',⟨by have:=aV.out;omega⟩,⟨bl HB.out⟩⟩
   rw [if_neg c2] at H
   have bA:=decide_eq_false c2;clear c2;obtain ⟨bD,bM,H⟩:=hB H;have A6:=aM bM;clear bM;have H':=aM H;clear H;go_wp2_with (((with_reducible refine gC (f:=71) rfl ?_);refine gL (some 24) Try.func71 #[.slice none 0 0,aD] ?_;(refine (Z56.calls aD bD _ A6.out).mono ?_);rintro e w7 ⟨cN,rfl,ho0,hb⟩;refine ⟨_,rfl,?_⟩;have bH:=aM (Kd.R_lower ho0 (below_size (bl HB.out)));replace HB:=rS HB hb;(repeat first|clear hb|clear ho0)))
   go_loopg [6,27] k1 (fun kq v6 cD w'=>∃ (aG:List (S72)) (aA:Int),cD=.int .i64 aA∧Aside0 (Z6.l1 kq aG l0 (l0.length:Int) aA=some r)∧Aside0 (kq≤k1)∧Aside0 (Kd.R k72 72 w' w.heap.size (fun _=>True) v6 aG)∧Aside0 (Below w.heap.size w w'))
   case atStart=>exact ⟨(bD),(0),xE,H',⟨Nat.le_refl _⟩,⟨kr bH.out⟩,⟨bl HB.out⟩⟩
   case round =>
    clear H'
    repeat clear bA
    obtain ⟨aG,aA,rfl,HA,bN,aN,HB⟩:=hrel;cases gk with
    | zero=>exact absurd HA.out (by simp [Z6.l1])
    | succ k2 =>
     have H:=HA.out;clear HA;simp only [Z6.l1] at H
     by_cases c8:aA<(l0.length:Int)
     case neg =>
      rw [if_neg c8] at H
      have bU:=decide_eq_false c8;clear c8;obtain rfl:=Option.some.inj H;go_wp2
      go_ret
      exact ⟨_,xW,by (with_reducible repeat (first|apply Kd.R_alloc|apply Kd.R_drewN|apply Kd.R_drew));exact aN.out,bl HB.out⟩
     rw [if_pos c8] at H
     have bU:=decide_eq_true c8;clear c8;obtain ⟨cO,H⟩:=gI H;obtain ⟨cK,H⟩:=gI H
     by_cases aW:aG.length+(rd_L6 l0 aA).length<4398046511104
     case neg =>
      rw [if_neg aW] at H
      exact absurd H (by simp)
     rw [if_pos aW] at H
     have LMc11:=aM aW;clear aW;obtain ⟨bG,aE⟩:∃ y_:List (S72),y_=(aG++(rd_L6 l0 aA)):=⟨_,rfl⟩;replace H:(Z6.l1 k2 bG l0 (l0.length:Int) (wS aA))=some r:=by (rw [aE];with_reducible exact H)
     have bI:=aM aE;clear aE;have H':=aM H;clear H;have aQ:0≤(aA:Int):=dT;have aT:aA<(l0.length:Int):=dT;obtain ⟨cL,cE,cG,bV,aI,hl548_0,hi548_0⟩:=at_L6 bL.out aA aQ aT;cases bV
     replace aI:=xB HB aI;have aX:=aM hi548_0;clear hi548_0 hl548_0;replace aQ:=eq_true aQ;replace aT:=eq_true aT;go_wp2_with (((with_reducible refine gate_builtin (b:=.append) (xs:=#[.tmp 31,.tmp 32]) rfl ?_);at_builtin;refine Kd.R_append_rows k72 (w0:=w) w.heap.size rfl (.tmp 31) (.tmp 32) 26 72 (.agg #[(.int .i64 0),(.int .i64 0),(.int .i64 0),(.int .i64 0)]) 32 rfl Try.underlying26 info72 rfl (by decide) (by omega) u6 aG (rd_L6 l0 aA) _ _ _ (fun _=>True) (fun _=>False) rfl rfl ?aO ?aR (fun _ _ h=>h) (fun _ h=>h.elim) ?aF ?aB ?aS ?aL ?_;(case aR=>repeat (exact (cB aX.out HB.out)));(case aB=>exact (bl HB.out));(case aF=>exact (fun _ _=>trivial));(case aO=>exact (kr aN.out));(case aS=>exact (below_size (bl HB.out)));(case aL=>have:=LMc11.out;omega);intro cP cR ho hb hg hat;rw [← bI.out] at ho;have bJ:=aM (ho);replace HB:=aM (hb);clear aN;clear ho hb hg hat))
     go_roundg k2
     case measure=>have:=aV.out;have:=bN.out;omega
     case rel=>exact ⟨(bG),(wS aA),xE,H',⟨by have:=aV.out;have:=bN.out;omega⟩,⟨kr bJ.out⟩,⟨bl HB.out⟩⟩

end Go.Proofs.Ytjodolkdelffaaa.PFnCards
