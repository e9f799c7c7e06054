/- A part of the proof of laws.FnIns. No condition beyond what its theorems say. -/
import Derived.Test.YtljbdchibfjbdaaDoorItoa
import Derived.Test.YtljbdchibfjbdaaDoorVFnInsPx23
namespace Go.Proofs.YtljbdchibfjbdaaDoor.PFnIns
open Go.RowKit Go.Proofs.YtljbdchibfjbdaaDoorW.PrintWords Go.Proofs.YtljbdchibfjbdaaDoorW.PrintLast Go.Proofs.YtljbdchibfjbdaaDoorW.PrintMore Go.Proofs.YtljbdchibfjbdaaDoor.Tabs
set_option linter.unusedVariables false
set_option linter.unusedSimpArgs false

def Z74.f (a0 a1:Int):Option (Int):=if a0<a1 then (some a0) else (some a1)
set_option maxHeartbeats 60000000 in
set_option maxRecDepth 100000 in
theorem Z74.calls (a0 a1 r:Int) (w:World) (h:Z74.f a0 a1=some r) :
  Calls Tryd.prog 94 #[a0,a1] w fun e w'=>e=.returned (.int .i64 r)∧Drawn0 w w':=by
 have H:(if a0<a1 then (some a0) else (some a1))=some r:=h;clear h
 by_cases c3:a0<a1
 case pos =>
  rw [if_pos c3] at H
  have aA:=decide_eq_true c3;clear c3;obtain rfl:=Option.some.inj H;go_enter Tryd.func94,Tryd.ntmps94
  go_wp2
  go_ret
  exact ⟨by rfl,by repeat (exact Drawn0.refl _)⟩
 rw [if_neg c3] at H
 have aA:=decide_eq_false c3;clear c3;obtain rfl:=Option.some.inj H;go_enter Tryd.func94,Tryd.ntmps94
 go_wp2
 go_ret
 exact ⟨by rfl,by repeat (exact Drawn0.refl _)⟩

def Z35.l0:Nat→Int→Int→Int→List (S102)→Option (Int × (List (S102)) × Bool)
 | 0,_,_,_,_=>none
 | k+1,x1,x7,aC,aA=>(Z74.f x1 5).bind fun aD=>(if x7<aD then (if aA.length<1759218604441 then (Z35.l0 k x1 (wrap64 (x7+1)) aC (aA++[(⟨false,false,(⟨0,0,0,0⟩:S25),0,0,0,0,false⟩:S102)])) else (none)) else ((Z11.f k aC aA).bind fun aE=>(if aE=true then (some (aC,aA,true)) else (some (0,([]:List (S102)),false)))))
def Z35.f (k:Nat) (a0 a1:Int):Option (Int × (List (S102)) × Bool):=Z35.l0 k a1 0 a0 ([]:List (S102))
theorem Z35.mono_l:∀ k,(∀ y0 y1 y2 y3,LeO (Z35.l0 k y0 y1 y2 y3) (Z35.l0 (k+1) y0 y1 y2 y3))
 | 0=>fun _ _ _ _ r h=>by simp [Z35.l0] at h
 | k+1=>by
  have ih0:=Z35.mono_l k
  ·intro y0 y1 y2 y3
   unfold Z35.l0
   repeat' (with_reducible first|apply ih0|apply Z11.mono|exact lR _|refine lI ?_ ?_|refine lB ?_ fun _=>?_)
theorem Z35.mono:∀ a0 a1 k,LeO (Z35.f k a0 a1) (Z35.f (k+1) a0 a1):=by
 intro a0 a1 k;have ih0:=Z35.mono_l k;unfold Z35.f
 repeat' (with_reducible apply ih0)
set_option maxHeartbeats 60000000 in
set_option maxRecDepth 100000 in
theorem Z35.calls (k:Nat) (a0 a1 r1:Int) (r2:List (S102)) (r3:Bool) (w:World) (h:Z35.f k a0 a1=some (r1,r2,r3)) :
  Calls Tryd.prog 83 #[a0,a1] w fun e w'=>∃ bJ:Value,e=.returned (.tuple #[.agg #[r1,bJ],r3])∧Kd.R k102 102 w' w.heap.size (fun _=>True) bJ r2∧Below w.heap.size w w':=by
 have cT:=Tryd.underlying79;have bW:=Tryd.underlying102;have HB:=aM (Below.refl w.heap.size w);have H:(Z35.l0 k a1 0 a0 ([]:List (S102)))=some (r1,r2,r3):=h;clear h;have H':=aM H;clear H;go_enter Tryd.func83,Tryd.ntmps83
 go_wp2_with (first|((with_reducible refine gD (N:=4) rfl ?_);refine bE (N:=4) (cs:=#[.int .i64 0,.slice none 0 0]) (t:=79) ?_;intro aI hg w3 hbox hb;have aC:=aM (hbox);have bX:=gF hg HB;have bY:=gF hg HB;replace HB:=rS HB hb;clear hb hbox hg)|((with_reducible refine gD (N:=6) rfl ?_);refine bE (N:=6) (cs:=#[.int .i64 0,.slice none 0 0]) (t:=79) ?_;intro aW hg w4 hbox hb;have aD:=aM (hbox);have bZ:=gF hg HB;have cA:=gF hg HB;have aG:=nM hg aC;have aH:=nH hg aC;replace aC:=rB aC hb;replace HB:=rS HB hb;clear hb hbox hg;have cU:=aH.out;have cV:=aG.out;have cW:=cA2 aD.out))
 go_loopg [7] k (fun kq v7 w'=>∃ (aK:Int) (aE:List (S102)) (u933001:Value),v7=.int .i64 aK∧Aside0 (Z35.l0 kq a1 aK a0 aE=some (r1,r2,r3))∧Aside0 (kq≤k)∧Aside0 (Kd.R k102 102 w' w.heap.size (fun _=>True) u933001 aE)∧Aside0 (w'.heap[aI]?=some (.cells #[.int .i64 0,(.slice none 0 0)] 79 (0,0)))∧Aside0 (w'.heap[aW]?=some (.cells #[a0,u933001] 79 (0,0)))∧Aside0 (Below w.heap.size w w'))
 case atStart=>exact ⟨(0),(([]:List (S102))),(.slice none 0 0),xE,H',⟨Nat.le_refl _⟩,⟨by exact Kd.R_nil _ _ _ _ _⟩,⟨fm aC.out⟩,⟨bm aD.out⟩,⟨bl HB.out⟩⟩
 case round =>
  clear H'
  repeat first|clear p2|clear c5
  obtain ⟨aK,aE,u933001,rfl,HA,bK,aA,aC,aD,HB⟩:=hrel;cases gk with
  | zero=>exact absurd HA.out (by simp [Z35.l0])
  | succ k1 =>
   have H:=HA.out;clear HA;simp only [Z35.l0] at H;obtain ⟨aN,bL,H⟩:=hB H;have A7:=aM bL;clear bL
   by_cases c8:aK<aN
   case pos =>
    rw [if_pos c8] at H
    have bN:=decide_eq_true c8;clear c8
    by_cases c9:aE.length<1759218604441
    case neg =>
     rw [if_neg c9] at H
     exact absurd H (by simp)
    rw [if_pos c9] at H
    have LMc9:=aM c9;clear c9;obtain ⟨aQ,aJ⟩:∃ y_:List (S102),y_=(aE++[(⟨false,false,(⟨0,0,0,0⟩:S25),0,0,0,0,false⟩:S102)]):=⟨_,rfl⟩;replace H:(Z35.l0 k1 a1 (wS aK) a0 aQ)=some (r1,r2,r3):=by (rw [aJ];with_reducible exact H)
    have bI:=aM aJ;clear aJ;have H':=aM H;clear H;go_wp2_with (first|((with_reducible refine gC (f:=94) rfl ?_);refine goesL_ (some 12) rfl rfl Tryd.func94 (by kernel_rfl) rfl #[a1,.int .i64 5] rfl xR ?_;(with_reducible refine (Z74.calls a1 5 aN _ A7.out).mono ?_);rintro e w' ⟨rfl,⟨nd,rfl⟩⟩;refine ⟨_,rfl,?_⟩;(try (rw [drewN_self wr];generalize hq_:World.drewN wr _=wr;replace aA:=qR hq_ (kr aA.out);replace aC:=qB hq_ (bk aC.out);replace aD:=qB hq_ (bk aD.out);replace HB:=qL hq_ (bl HB.out);clear hq_));have cC:=aH.out;have cD:=aG.out;have cE:=cA2 aD.out)|((with_reducible refine gate_builtin (b:=.append) (xs:=#[.tmp 17,.tmp 19]) rfl ?_);at_builtin;refine Kd.R_append k102 (w0:=w) w.heap.size rfl (.tmp 17) (.tmp 19) 77 102 (.agg #[(.bool false),(.bool false),(.int .i64 0),(.int .i64 0),(.int .i64 0),(.int .i64 0),(.int .i64 0),(.int .i64 0),(.int .i64 0),(.int .i64 0),(.bool false)]) 80 rfl Tryd.underlying77 info102 rfl (by decide) (by omega) u933001 aE (⟨false,false,(⟨0,0,0,0⟩:S25),0,0,0,0,false⟩:S102) [.bool false,.bool false,.int .i64 0,.int .i64 0,.int .i64 0,.int .i64 0,.int .i64 0,.int .i64 0,.int .i64 0,.int .i64 0,.bool false] (fun _=>True) (fun _=>False) rfl rfl ?aP (fun _ hk=>hk.elim) ?aF ?aO ?aB ?aS ?aL ?_;(case aP=>exact k102_mkM _ _ _ (⟨false,false,(⟨0,0,0,0⟩:S25),0,0,0,0,false⟩:S102));(case aB=>exact (bl HB.out));(case aF=>exact (fun _ _=>trivial));(case aO=>exact (kr aA.out));(case aS=>exact (below_size (bl HB.out)));(case aL=>have:=LMc9.out;omega);intro cX cY ho hb hg hat;rw [← bI.out] at ho;have aX:=aM (ho);replace aC:=aM (blk_grown (bk aC.out) hg (Kd.R_ne aA.out aC.out (by decide)));replace aD:=aM (blk_grown (bk aD.out) hg (Kd.R_ne aA.out aD.out (by decide)));replace HB:=aM (hb);clear aA;clear ho hb hg hat;obtain ⟨bD,bG,bO⟩:=Kd.R_slice aX.out;subst bO;have cG:=cA2 aD.out))
    go_roundg k1
    case measure=>have:=bK.out;omega
    case rel=>exact ⟨(wS aK),(aQ),(.slice bD aQ.length bG),xE,H',⟨by have:=bK.out;omega⟩,⟨kr (Kd.R_mono (rU1 1 aX.out aD.out (.slice bD aQ.length bG)) (fun _ hk=>trivial))⟩,⟨fm aC.out⟩,⟨by (with_reducible repeat (first|refine blk_drewN ?_ _|refine blk_drew ?_|refine blk_alloc ?_ _));refine blk_put (cs:=#[a0,u933001]) ?_ 1 _ rfl;(with_reducible repeat (first|refine blk_drewN ?_ _|refine blk_drew ?_|refine blk_alloc ?_ _));exact aD.out⟩,⟨bl HB.out⟩⟩
   rw [if_neg c8] at H
   have bN:=decide_eq_false c8;clear c8;obtain ⟨bP,bH,H⟩:=hB H;have bM:=aM bH;clear bH
   by_cases bA:bP=true
   case pos =>
    subst bA;replace H:=hP H rfl;simp only [Option.some.injEq,Prod.mk.injEq] at H;obtain ⟨rfl,rfl,rfl⟩:=H;go_wp2_with (first|((with_reducible refine gC (f:=94) rfl ?_);refine goesL_ (some 12) rfl rfl Tryd.func94 (by kernel_rfl) rfl #[a1,.int .i64 5] rfl xR ?_;(with_reducible refine (Z74.calls a1 5 aN _ A7.out).mono ?_);rintro e w' ⟨rfl,⟨nd,rfl⟩⟩;refine ⟨_,rfl,?_⟩;(try (rw [drewN_self wr];generalize hq_:World.drewN wr _=wr;replace aA:=qR hq_ (kr aA.out);replace aC:=qB hq_ (bk aC.out);replace aD:=qB hq_ (bk aD.out);replace HB:=qL hq_ (bl HB.out);clear hq_));have cH:=aH.out;have cK:=aG.out;have cL:=cA2 aD.out;obtain ⟨aT,aV,bQ⟩:=Kd.R_slice aA.out;subst bQ)|((with_reducible refine gC (f:=78) rfl ?_);refine goesL_ (some 23) rfl rfl Tryd.func78 (by kernel_rfl) rfl #[.agg #[a0,.slice aT aE.length aV]] rfl xR ?_;(with_reducible refine (Z11.calls k1 a0 _ _ aE true _ ?side1 ?side2 bM.out).mono ?_);(case side1=>exact cM ((Kd.R_reads' aA.out).2.2));(case side2=>exact (Kd.R_reads' aA.out).2.1);rintro e dA ⟨rfl,hb⟩;refine ⟨_,rfl,?_⟩;replace aA:=rK aA hb;replace aC:=rB aC hb;replace aD:=rB aD hb;replace HB:=rS HB hb;(try clear hb);have cN:=cA2 aD.out;have cO:=cA2 aC.out))
    refine bodyPost_ret (results_ct rfl _ _ aI 79 #[a0,.slice aT aE.length aV] (0,0) _ rfl (bm aC.out) Tryd.underlying79 rfl (by kernel_rfl)) rfl ?_
    exact ⟨_,xW,kr (Kd.R_mono (rT2 aA.out aC.out (.int .i64 a0) (.slice aT aE.length aV)) (fun _ hk=>trivial)),bl HB.out⟩
   replace bA:=Bool.eq_false_iff.mpr bA;subst bA;replace H:=hF H;simp only [Option.some.injEq,Prod.mk.injEq] at H;obtain ⟨rfl,rfl,rfl⟩:=H;go_wp2_with (first|((with_reducible refine gC (f:=94) rfl ?_);refine goesL_ (some 12) rfl rfl Tryd.func94 (by kernel_rfl) rfl #[a1,.int .i64 5] rfl xR ?_;(with_reducible refine (Z74.calls a1 5 aN _ A7.out).mono ?_);rintro e w' ⟨rfl,⟨nd,rfl⟩⟩;refine ⟨_,rfl,?_⟩;(try (rw [drewN_self wr];generalize hq_:World.drewN wr _=wr;replace aA:=qR hq_ (kr aA.out);replace aC:=qB hq_ (bk aC.out);replace aD:=qB hq_ (bk aD.out);replace HB:=qL hq_ (bl HB.out);clear hq_));have cP:=aH.out;have cQ:=aG.out;have cR:=cA2 aD.out;obtain ⟨bT,bU,bV⟩:=Kd.R_slice aA.out;subst bV)|((with_reducible refine gC (f:=78) rfl ?_);refine goesL_ (some 23) rfl rfl Tryd.func78 (by kernel_rfl) rfl #[.agg #[a0,.slice bT aE.length bU]] rfl xR ?_;(with_reducible refine (Z11.calls k1 a0 _ _ aE false _ ?side1 ?side2 bM.out).mono ?_);(case side1=>exact cM ((Kd.R_reads' aA.out).2.2));(case side2=>exact (Kd.R_reads' aA.out).2.1);rintro e dB ⟨rfl,hb⟩;refine ⟨_,rfl,?_⟩;replace aA:=rK aA hb;replace aC:=rB aC hb;replace aD:=rB aD hb;replace HB:=rS HB hb;(try clear hb);have cS:=cA2 aC.out))
   refine bodyPost_ret (results_ct rfl _ _ aI 79 #[.int .i64 0,.slice none 0 0] (0,0) _ rfl (bm aC.out) Tryd.underlying79 rfl (by kernel_rfl)) rfl ?_
   exact ⟨_,xW,by exact Kd.R_nil _ _ _ _ _,bl HB.out⟩

mutual
def Z15.l0:Nat→Int→List Int→Int→Int→Int→List (S102)→Option (Int × (List (S102)) × Int × Int)
 | 0,_,_,_,_,_,_=>none
 | k+1,x5,aE,aG,aH,aD,aA=>if x5<(aA.length:Int) then ((Z44.f aE aG aH 4).bind fun aC=>(if aC.1=true then (Z15.l0 k (wrap64 (x5+1)) aE aC.2.1 aC.2.2 aD aA) else ((Z1.f k aD aA 3 x5 0 0 0 0 0 true).bind fun aI=>(Z15.l0 k (wrap64 (x5+1)) aE aC.2.1 aC.2.2 aI.1 aI.2.1)))) else (Z15.l1 k 0 aE aG aH aD aA)
def Z15.l1:Nat→Int→List Int→Int→Int→Int→List (S102)→Option (Int × (List (S102)) × Int × Int)
 | 0,_,_,_,_,_,_=>none
 | k+1,x6,aG,aI,aJ,aD,aE=>(Z3.f aG aI aJ 10).bind fun aC=>(if x6<aC.1 then ((Z51.f aG aC.2.1 aC.2.2).bind fun aA=>((Z1.f k aD aE aA.1 aA.2.1 aA.2.2.1 aA.2.2.2.1 aA.2.2.2.2.1 aA.2.2.2.2.2.1 aA.2.2.2.2.2.2.1 aA.2.2.2.2.2.2.2.1).bind fun aH=>(Z15.l1 k (wrap64 (x6+1)) aG aA.2.2.2.2.2.2.2.2.1 aA.2.2.2.2.2.2.2.2.2 aH.1 aH.2.1))) else (some (aD,aE,aC.2.1,aC.2.2)))
end
def Z15.f (k:Nat) (aD:List Int) (aG aH:Int):Option (Int × (List (S102)) × Int × Int):=(Z3.f aD aG aH 6).bind fun aA=>((Z3.f aD aA.2.1 aA.2.2 4).bind fun aC=>((Z35.f k (wrap64 (1+aA.1)) (wrap64 (1+aC.1))).bind fun aE=>(Z15.l0 k 0 aD aC.2.1 aC.2.2 aE.1 aE.2.1)))
theorem Z15.mono_l:∀ k,(∀ y0 y1 y2 y3 y4 y5,LeO (Z15.l0 k y0 y1 y2 y3 y4 y5) (Z15.l0 (k+1) y0 y1 y2 y3 y4 y5))∧(∀ y0 y1 y2 y3 y4 y5,LeO (Z15.l1 k y0 y1 y2 y3 y4 y5) (Z15.l1 (k+1) y0 y1 y2 y3 y4 y5))
 | 0=>by refine ⟨?_,?_⟩ <;> intros <;> intro r h <;> simp [Z15.l0,Z15.l1] at h
 | k+1=>by
  obtain ⟨ih0,ih1⟩:=Z15.mono_l k;refine ⟨?_,?_⟩
  ·intro y0 y1 y2 y3 y4 y5
   unfold Z15.l0
   repeat' (with_reducible first|apply ih0|apply ih1|apply Z1.mono|exact lR _|refine lI ?_ ?_|refine lB ?_ fun _=>?_)
  ·intro y0 y1 y2 y3 y4 y5
   unfold Z15.l1
   repeat' (with_reducible first|apply ih1|apply Z1.mono|exact lR _|refine lI ?_ ?_|refine lB ?_ fun _=>?_)
theorem Z15.mono:∀ a0 a1 a2 k,LeO (Z15.f k a0 a1 a2) (Z15.f (k+1) a0 a1 a2):=by
 intro a0 a1 a2 k;obtain ⟨ih0,ih1⟩:=Z15.mono_l k;unfold Z15.f
 repeat' (with_reducible first|apply ih0|apply Z35.mono|exact lR _|refine lB ?_ fun _=>?_)
def Z15.T10:Bool × List (List Nat × List Nat):=(true,[([],[]),([],[]),([1],[1]),([0,2,2],[0,2]),([3],[3]),([4],[4]),([4],[4]),([5,3,0,1,2,3,4,5],[5])])
def Z15.B10:List Nat:=[0,0,2,7,15,31,31,63]
theorem Z15.tab10:rtab .any (opsOf Tryd.f59 10)=Z15.T10:=by kernel_rfl
theorem Z15.bits10:waitsOk Z15.T10.2 Z15.B10=true:=by kernel_rfl
set_option maxHeartbeats 60000000 in
set_option maxRecDepth 100000 in
theorem Z15.calls (k g:Nat) (aG:List Int) (bL bM r1:Int) (r2:List (S102)) (r3 r4:Int) (w0 w:World) (hI:IsS96 w0 w g aG bL bM) (hB:Below w0.heap.size w0 w) (h:Z15.f k aG bL bM=some (r1,r2,r3,r4)) :
  Calls Tryd.prog 59 #[.pointer (some ⟨g,0,none⟩)] w fun e w'=>∃ dZ:Value,e=.returned (.agg #[r1,dZ])∧Kd.R k102 102 w' w.heap.size (fun _=>True) dZ r2∧IsS96 w0 w' g aG r3 r4∧Below w0.heap.size w0 w'∧KeepBut w w' g none:=by
 have gY:=Tryd.underlying79;have gZ:=Tryd.underlying27;have aE:=aM hI;have HK:=aM (KeepBut.refl w g none);have HL:=aM hB.size;clear hI;have HW0:=aM hB.size;have HB:=aM hB;clear hB;have H:((Z3.f aG bL bM 6).bind fun bT=>((Z3.f aG bT.2.1 bT.2.2 4).bind fun bU=>((Z35.f k (wrap64 (1+bT.1)) (wrap64 (1+bU.1))).bind fun cY=>(Z15.l0 k 0 aG bU.2.1 bU.2.2 cY.1 cY.2.1))))=some (r1,r2,r3,r4):=h
 clear h;obtain ⟨⟨cH,dE,dF⟩,eA,H⟩:=hB H
 try dsimp only at H
 have A2:=aM eA;clear eA;obtain ⟨⟨cK,bV,bW⟩,eB,H⟩:=hB H
 try dsimp only at H
 have A3:=aM eB;clear eB;obtain ⟨⟨cL,bX,eG⟩,eC,H⟩:=hB H
 try dsimp only at H
 have A4:=aM eC;clear eC;have H':=aM H;clear H;go_enter Tryd.func59,Tryd.ntmps59
 go_wp2_with (first|((with_reducible refine gD (N:=2) rfl ?_);refine bE (N:=2) (cs:=#[.int .i64 0,.slice none 0 0]) (t:=79) ?_;intro bJ hg w5 hbox hb;have aD:=aM (hbox);have fE:=gE hg (keep_size (km HK.out));have fF:=gE2 HW0.out hg (keep_size (km HK.out));have dD:=nL hg (IsS96.lt (show IsS96 w0 _ g aG bL bM from IsS96.mv aE.out));have aV:=nG hg (IsS96.lt (show IsS96 w0 _ g aG bL bM from IsS96.mv aE.out));replace aE:=aM (IsS96.below (IsS96.mv aE.out) hb);replace HK:=rU HK hb;replace HB:=aM (bS (IsS96.bl HB.out) hb);clear hb hbox hg)|((with_reducible refine gC (f:=60) rfl ?_);refine goesL_ (some 9) rfl rfl Tryd.func60 (by kernel_rfl) rfl #[.pointer (some ⟨g,0,none⟩),.int .i64 6] rfl xR ?_;(with_reducible refine (Z3.calls g aG bL bM 6 cH dE dF w0 _ ?side1 ?side2 A2.out).mono ?_);(case side1=>exact IsS96.mv aE.out);(case side2=>exact IsS96.bl HB.out);rintro e w6 ⟨rfl,hi,hb,hk⟩;refine ⟨_,rfl,?_⟩;replace aD:=rP hk aD aV;replace HK:=aM (KeepBut.trans (km HK.out) hk (.inl rfl));replace HB:=aM (hb);replace aE:=aM (hi);(repeat first|clear hb|clear hk|clear hi))|((with_reducible refine gC (f:=60) rfl ?_);refine goesL_ (some 12) rfl rfl Tryd.func60 (by kernel_rfl) rfl #[.pointer (some ⟨g,0,none⟩),.int .i64 4] rfl xR ?_;(with_reducible refine (Z3.calls g aG dE dF 4 cK bV bW w0 _ ?side1 ?side2 A3.out).mono ?_);(case side1=>exact IsS96.mv aE.out);(case side2=>exact IsS96.bl HB.out);rintro e w7 ⟨rfl,hi,hb,hk⟩;refine ⟨_,rfl,?_⟩;replace aD:=rP hk aD aV;replace HK:=aM (KeepBut.trans (km HK.out) hk (.inl rfl));replace HB:=aM (hb);replace aE:=aM (hi);(repeat first|clear hb|clear hk|clear hi))|((with_reducible refine gC (f:=83) rfl ?_);refine goesL_ (some 14) rfl rfl Tryd.func83 (by kernel_rfl) rfl #[.int .i64 (wrap64 (1+cH)),.int .i64 (wrap64 (1+cK))] rfl xR ?_;(with_reducible refine (Z35.calls k (wrap64 (1+cH)) (wrap64 (1+cK)) cL bX eG _ A4.out).mono ?_);rintro e w8 ⟨hD,rfl,ho0,hb⟩;refine ⟨_,rfl,?_⟩;have bK:=aM (Kd.R_lower ho0 (keep_size (km HK.out)));replace aE:=aM (IsS96.below (IsS96.mv aE.out) hb);replace aD:=rB aD hb;replace HK:=rU HK hb;replace HB:=aM (bS (IsS96.bl HB.out) hb);(repeat first|clear hb|clear ho0))|((with_reducible refine gD (N:=3) rfl ?_);refine bR bK (N:=3) (cs:=#[.int .i64 0,.slice none 0 0]) (t:=79) ?_;intro bG hg w9 hbox hb;have aC:=aM (hbox);have fG:=gE hg (keep_size (km HK.out));have fH:=gE2 HW0.out hg (keep_size (km HK.out));have aK:=nM hg aD;have aN:=nH hg aD;have bH:=nL hg (IsS96.lt (show IsS96 w0 _ g aG bV bW from IsS96.mv aE.out));have aJ:=nG hg (IsS96.lt (show IsS96 w0 _ g aG bV bW from IsS96.mv aE.out));replace bK:=rK bK hb;replace aE:=aM (IsS96.below (IsS96.mv aE.out) hb);replace aD:=rB aD hb;replace HK:=rU HK hb;replace HB:=aM (bS (IsS96.bl HB.out) hb);clear hb hbox hg;have fI:=aN.out;have fK:=aK.out;have fL:=aJ.out;have fM:=bH.out;have fN:=cA2 aC.out;obtain ⟨dG,dH,eH⟩:=Kd.R_slice bK.out;subst eH))
 go_loopg [5] k (fun kq v5 w'=>∃ (bI:Int) (aW:Int) (aX:Int) (aQ:Int) (aH:List (S102)) (u951001:Value),v5=.int .i64 bI∧Aside0 (Z15.l0 kq bI aG aW aX aQ aH=some (r1,r2,r3,r4))∧Aside0 (kq≤k)∧Aside0 (Kd.R k102 102 w' w.heap.size (fun _=>True) u951001 aH)∧Aside0 (w'.heap[bJ]?=some (.cells #[.int .i64 0,(.slice none 0 0)] 79 (0,0)))∧Aside0 (w'.heap[bG]?=some (.cells #[aQ,u951001] 79 (0,0)))∧Aside0 (IsS96 w0 w' g aG aW aX)∧Aside0 (KeepBut w w' g none)∧Aside0 (Below w0.heap.size w0 w'))
 case atStart=>exact ⟨(0),(bV),(bW),(cL),(bX),(.slice dG bX.length dH),xE,H',⟨Nat.le_refl _⟩,⟨kr (Kd.R_mono (rT2 bK.out aC.out (.int .i64 cL) (.slice dG bX.length dH)) (fun _ hk=>trivial))⟩,⟨fm aD.out⟩,⟨bm aC.out⟩,⟨IsS96.mv aE.out⟩,⟨km HK.out⟩,⟨IsS96.bl HB.out⟩⟩
 case round =>
  clear H'
  repeat first|clear c1|clear p2|clear c5|clear c6|clear p6|clear c8|clear eY|clear eZ
  obtain ⟨bI,aW,aX,aQ,aH,u951001,rfl,HA,bP,aA,aD,aC,aE,HK,HB⟩:=hrel;cases gk with
  | zero=>exact absurd HA.out (by simp [Z15.l0])
  | succ k1 =>
   have H:=HA.out;clear HA;simp only [Z15.l0] at H
   by_cases bN:bI<(aH.length:Int)
   case pos =>
    rw [if_pos bN] at H
    have dA:=decide_eq_true bN;clear bN;obtain ⟨⟨eI,bY,bZ⟩,dI,H⟩:=hB H
    try dsimp only at H
    have eD:=aM dI;clear dI
    by_cases cG:eI=true
    case pos =>
     subst cG;replace H:=hP H rfl;have H':=aM H;clear H;have fO:=aN.out;have fP:=aK.out;have fQ:=aJ.out;have fS:=bH.out;have fT:=cA2 aC.out;obtain ⟨eJ,eK,eL⟩:=Kd.R_slice aA.out;subst eL;go_wp2_with (((with_reducible refine gC (f:=56) rfl ?_);refine goesL_ (some 25) rfl rfl Tryd.func56 (by kernel_rfl) rfl #[.pointer (some ⟨g,0,none⟩),.int .i64 4] rfl xR ?_;(with_reducible refine (Z44.calls g aG aW aX 4 true bY bZ w0 _ ?side1 ?side2 eD.out).mono ?_);(case side1=>exact IsS96.mv aE.out);(case side2=>exact IsS96.bl HB.out);rintro e hZ ⟨rfl,hi,hb,hk⟩;refine ⟨_,rfl,?_⟩;replace aA:=aM (IsS96.rJ aG aW aX (IsS96.mv aE.out) (kr aA.out) hk);replace aD:=rP hk aD aV;replace aC:=rP hk aC aJ;replace HK:=aM (KeepBut.trans (km HK.out) hk (.inl rfl));replace HB:=aM (hb);replace aE:=aM (hi);(repeat first|clear hb|clear hk|clear hi)))
     go_roundg k1
     case measure=>have:=bP.out;omega
     case rel=>exact ⟨(wS bI),(bY),(bZ),(aQ),(aH),(.slice eJ aH.length eK),xE,H',⟨by have:=bP.out;omega⟩,⟨kr aA.out⟩,⟨bk aD.out⟩,⟨bk aC.out⟩,⟨IsS96.mv aE.out⟩,⟨km HK.out⟩,⟨IsS96.bl HB.out⟩⟩
    replace cG:=Bool.eq_false_iff.mpr cG;subst cG;replace H:=hF H;obtain ⟨⟨cN,cA,eM⟩,dJ,H⟩:=hB H
    try dsimp only at H
    have fA:=aM dJ;clear dJ;have H':=aM H;clear H;have fU:=aN.out;have fV:=aK.out;have fW:=aJ.out;have fX:=bH.out;have fY:=cA2 aC.out;obtain ⟨eN,eO,eP⟩:=Kd.R_slice aA.out;subst eP;go_wp2_with (first|((with_reducible refine gC (f:=56) rfl ?_);refine goesL_ (some 25) rfl rfl Tryd.func56 (by kernel_rfl) rfl #[.pointer (some ⟨g,0,none⟩),.int .i64 4] rfl xR ?_;(with_reducible refine (Z44.calls g aG aW aX 4 false bY bZ w0 _ ?side1 ?side2 eD.out).mono ?_);(case side1=>exact IsS96.mv aE.out);(case side2=>exact IsS96.bl HB.out);rintro e iA ⟨rfl,hi,hb,hk⟩;refine ⟨_,rfl,?_⟩;replace aA:=aM (IsS96.rJ aG aW aX (IsS96.mv aE.out) (kr aA.out) hk);replace aD:=rP hk aD aV;replace aC:=rP hk aC aJ;replace HK:=aM (KeepBut.trans (km HK.out) hk (.inl rfl));replace HB:=aM (hb);replace aE:=aM (hi);(repeat first|clear hb|clear hk|clear hi);have gA:=cA2 aC.out)|((with_reducible refine gC (f:=58) rfl ?_);refine goesL_ (some 31) rfl rfl Tryd.func58 (by kernel_rfl) rfl #[.agg #[aQ,.slice eN aH.length eO],.agg #[.int .i64 3,bI,.int .i64 0,.int .i64 0,.int .i64 0,.int .i64 0,.int .i64 0,.bool true]] rfl xR ?_;(with_reducible refine (Z1.calls k1 aQ _ _ aH 3 bI 0 0 0 0 0 true cN cA eM _ ?side1 ?side2 fA.out).mono ?_);(case side1=>exact cM ((Kd.R_reads' aA.out).2.2));(case side2=>exact (Kd.R_reads' aA.out).2.1);rintro e iB ⟨hH,hJ,rfl,ho0,ho1,hb⟩;refine ⟨_,rfl,?_⟩;have dB:=aM (Kd.R_lower (Kd.R_new' ho0 (Kd.R_lt (kr aA.out))) (keep_size (km HK.out)));have gB:=aM (Kd.R_lower ho1 (keep_size (km HK.out)));replace aA:=aM (Kd.R_elder' (kr aA.out) (Kd.R_base ho0) hb);replace aD:=rB aD hb;replace aC:=rB aC hb;replace aE:=aM (IsS96.below (IsS96.mv aE.out) hb);replace HK:=rU HK hb;replace HB:=aM (bS (IsS96.bl HB.out) hb);(repeat first|clear hb|clear ho0|clear ho1);have gG:=cA2 aC.out;obtain ⟨dK,dL,eQ⟩:=Kd.R_slice dB.out;subst eQ))
    go_roundg k1
    case measure=>have:=bP.out;omega
    case rel=>exact ⟨(wS bI),(bY),(bZ),(cN),(cA),(.slice dK cA.length dL),xE,H',⟨by have:=bP.out;omega⟩,⟨kr (Kd.R_mono (rT2 dB.out aC.out (.int .i64 cN) (.slice dK cA.length dL)) (fun _ hk=>trivial))⟩,⟨fm aD.out⟩,⟨bm aC.out⟩,⟨IsS96.mv aE.out⟩,⟨km HK.out⟩,⟨IsS96.bl HB.out⟩⟩
   rw [if_neg bN] at H
   have dA:=decide_eq_false bN;clear bN;have H':=aM H;clear H;have gH:=aN.out;have gJ:=aK.out;have gK:=aJ.out;have gM:=bH.out;have gO:=cA2 aC.out;obtain ⟨eR,eS,eT⟩:=Kd.R_slice aA.out;subst eT;go_wp2
   go_loopg [6] k1 (fun kq v6 w'=>∃ (bO:Int) (bA:Int) (bD:Int) (aI:Int) (aT:List (S102)) (u951001:Value),v6=.int .i64 bO∧Aside0 (Z15.l1 kq bO aG bA bD aI aT=some (r1,r2,r3,r4))∧Aside0 (kq≤k1)∧Aside0 (Kd.R k102 102 w' w.heap.size (fun _=>True) u951001 aT)∧Aside0 (w'.heap[bJ]?=some (.cells #[.int .i64 0,(.slice none 0 0)] 79 (0,0)))∧Aside0 (w'.heap[bG]?=some (.cells #[aI,u951001] 79 (0,0)))∧Aside0 (IsS96 w0 w' g aG bA bD)∧Aside0 (KeepBut w w' g none)∧Aside0 (Below w0.heap.size w0 w'))
   case atStart=>exact ⟨(0),(aW),(aX),(aQ),(aH),(.slice eR aH.length eS),xE,H',⟨Nat.le_refl _⟩,⟨kr aA.out⟩,⟨bk aD.out⟩,⟨bk aC.out⟩,⟨IsS96.mv aE.out⟩,⟨km HK.out⟩,⟨IsS96.bl HB.out⟩⟩
   case round =>
    clear H'
    repeat clear dA
    obtain ⟨bO,bA,bD,aI,aT,u951001,rfl,HA,eE,aA,aD,aC,aE,HK,HB⟩:=hrel;cases gk with
    | zero=>exact absurd HA.out (by simp [Z15.l1])
    | succ k2 =>
     have H:=HA.out;clear HA;simp only [Z15.l1] at H;obtain ⟨⟨cO,cC,cD⟩,dM,H⟩:=hB H
     try dsimp only at H
     have eF:=aM dM;clear dM
     by_cases bQ:bO<cO
     case neg =>
      rw [if_neg bQ] at H
      have dY:=decide_eq_false bQ;clear bQ;simp only [Option.some.injEq,Prod.mk.injEq] at H;obtain ⟨rfl,rfl,rfl,rfl⟩:=H;go_wp2_with (((with_reducible refine gC (f:=60) rfl ?_);refine goesL_ (some 36) rfl rfl Tryd.func60 (by kernel_rfl) rfl #[.pointer (some ⟨g,0,none⟩),.int .i64 10] rfl xR ?_;(with_reducible refine (Z3.calls g aG bA bD 10 cO cC cD w0 _ ?side1 ?side2 eF.out).mono ?_);(case side1=>exact IsS96.mv aE.out);(case side2=>exact IsS96.bl HB.out);rintro e iI ⟨rfl,hi,hb,hk⟩;refine ⟨_,rfl,?_⟩;replace aA:=aM (IsS96.rJ aG bA bD (IsS96.mv aE.out) (kr aA.out) hk);replace aD:=rP hk aD aV;replace aC:=rP hk aC aJ;replace HK:=aM (KeepBut.trans (km HK.out) hk (.inl rfl));replace HB:=aM (hb);replace aE:=aM (hi);(repeat first|clear hb|clear hk|clear hi);have gP:=aN.out;have gQ:=aK.out;have gR:=aJ.out;have gS:=bH.out;have gT:=cA2 aC.out;have gU:=aV.out;have gV:=dD.out;have gW:=cA2 aD.out;obtain ⟨dN,dO,eU⟩:=Kd.R_slice aA.out;subst eU))
      refine bodyPost_ret (results_cell_row rfl _ _ bJ 79 #[aI,.slice dN aT.length dO] (0,0) _ rfl (bm aD.out) Tryd.underlying79 rfl (by kernel_rfl)) rfl ?_
      exact ⟨_,xW,kr (Kd.R_mono (rT2 aA.out aD.out (.int .i64 aI) (.slice dN aT.length dO)) (fun _ hk=>trivial)),IsS96.mv aE.out,IsS96.bl HB.out,km HK.out⟩
     rw [if_pos bQ] at H
     have dY:=decide_eq_true bQ;clear bQ;obtain ⟨⟨cP,cQ,cR,cS,cT,cU,cV,cW,dP,dQ⟩,dR,H⟩:=hB H
     try dsimp only at H
     have fB:=aM dR;clear dR;obtain ⟨⟨cX,cE,eV⟩,dS,H⟩:=hB H
     try dsimp only at H
     have fC:=aM dS;clear dS;have H':=aM H;clear H
     try go_wp2_with (((with_reducible refine gC (f:=60) rfl ?_);refine goesL_ (some 36) rfl rfl Tryd.func60 (by kernel_rfl) rfl #[.pointer (some ⟨g,0,none⟩),.int .i64 10] rfl xR ?_;(with_reducible refine (Z3.calls g aG bA bD 10 cO cC cD w0 _ ?side1 ?side2 eF.out).mono ?_);(case side1=>exact IsS96.mv aE.out);(case side2=>exact IsS96.bl HB.out);rintro e fD ⟨rfl,hi,hb,hk⟩;refine ⟨_,rfl,?_⟩;replace aA:=aM (IsS96.rJ aG bA bD (IsS96.mv aE.out) (kr aA.out) hk);replace aD:=rP hk aD aV;replace aC:=rP hk aC aJ;replace HK:=aM (KeepBut.trans (km HK.out) hk (.inl rfl));replace HB:=aM (hb);replace aE:=aM (hi);(repeat first|clear hb|clear hk|clear hi)))
     replace aA:=aM (Kd.R_drew aA.out);replace aD:=aM (blk_drew aD.out);replace aC:=aM (blk_drew aC.out);replace aE:=aM (IsS96.drew aE.out);replace HK:=aM (keep_drew HK.out);replace HB:=aM (below_drew1 HB.out);refine start_ (n:=8) (S:=fun w'=>cS2 w' bG (.int .i64 aI) (u951001)) (ds:=[7]) (dn 8 0) (by kernel_rfl) rfl rfl ⟨cI aC.out 0,cI aC.out 1⟩ (fun hHeld=>?_);refine with_tabW Z15.tab10 Z15.bits10 (fun HT_ HW_=>?_)
     generalize fD.drew=iJ at aA aD aC aE HK HB hHeld ⊢
     refine pZ 1 42 (bv 8 2) HT_ ?_;refine aZ 0 41 (bv 8 3) HT_ HW_ hHeld ?_;refine one_ (i:=2) (N:=some 43) (bv 8 7) rfl rfl (one_of HT_.out (by kernel_rfl)) (by decide) (fun K hK=>?_)
     refine goes_ Tryd.func49 (by kernel_rfl) rfl #[.pointer (some ⟨g,0,none⟩)] (by rfl) rfl rfl xR ?_
     with_reducible refine (Z51.calls g aG cC cD cP cQ cR cS cT cU cV cW dP dQ w0 _ ?side1 ?side2 fB.out).mono ?_
     (case side1=>exact IsS96.mv aE.out)
     (case side2=>exact IsS96.bl HB.out)
     rintro e iK ⟨rfl,hi,hb,hk⟩;refine ⟨_,rfl,?_⟩;replace aA:=aM (IsS96.rJ aG cC cD (IsS96.mv aE.out) (kr aA.out) hk)
     replace aD:=rP hk aD aV;replace aC:=rP hk aC aJ;replace HK:=aM (KeepBut.trans (km HK.out) hk (.inl rfl));replace HB:=aM (hb);replace aE:=aM (hi)
     (try clear hb)
     (try clear hk)
     (try clear hi)
     obtain ⟨eW,eX,dU⟩:=Kd.R_slice aA.out
     (subst dU)
     refine hK.out _ _ ⟨cI aC.out 0,cI aC.out 1⟩ (fun hHeld=>?_)
     clear hK K;refine norm_ (a':=?_) ?_ ?_;rotate_left
     ·show Act.put _ (some 43) _=_
      simp only [Act.put,sA,sZ,sS,i64_w,i32_w]
      rfl
     refine one_ (i:=3) (N:=some 44) (bv 8 15) rfl rfl (one_of HT_.out (by kernel_rfl)) (by decide) (fun K hK=>?_)
     refine goes_ Tryd.func58 (by kernel_rfl) rfl #[.agg #[aI,.slice eW aT.length eX],.agg #[cP,cQ,cR,cS,cT,cU,cV,cW]] (by rfl) rfl rfl xR ?_
     with_reducible refine (Z1.calls k2 aI _ _ aT cP cQ cR cS cT cU cV cW cX cE eV _ ?side1 ?side2 fC.out).mono ?_
     (case side1=>exact cM ((Kd.R_reads' aA.out).2.2))
     (case side2=>exact (Kd.R_reads' aA.out).2.1)
     rintro e iL ⟨hO,hU,rfl,ho0,ho1,hb⟩;refine ⟨_,rfl,?_⟩;have dC:=aM (Kd.R_lower (Kd.R_new' ho0 (Kd.R_lt (kr aA.out))) (keep_size (km HK.out)));have gX:=aM (Kd.R_lower ho1 (keep_size (km HK.out)));replace aA:=aM (Kd.R_elder' (kr aA.out) (Kd.R_base ho0) hb);replace aD:=rB aD hb;replace aC:=rB aC hb;replace aE:=aM (IsS96.below (IsS96.mv aE.out) hb);replace HK:=rU HK hb;replace HB:=aM (bS (IsS96.bl HB.out) hb)
     (try clear hb)
     (try clear ho0)
     (try clear ho1)
     obtain ⟨dV,dW,dX⟩:=Kd.R_slice dC.out
     (subst dX)
     refine hK.out _ _ ⟨cI aC.out 0,cI aC.out 1⟩ (fun hHeld=>?_)
     clear hK K;refine norm_ (a':=?_) ?_ ?_;rotate_left
     ·show Act.put _ (some 44) _=_
      simp only [Act.put,sA,sZ,sS,i64_w,i32_w]
      rfl
     refine pZ 4 40 (bv 8 31) HT_ ?_;refine pZ 5 45 (bv 8 63) HT_ ?_;refine pZ 6 46 (bv 8 127) HT_ ?_;refine last_ (i:=7) (N:=none) (bv 8 255) rfl rfl (one_of HT_.out (by kernel_rfl)) (by decide) (fun K hK=>?_)
     have hX:=cI aC.out 0;have hfs45:=bF aC.out 0;have hns45_0:=aK.out;have hms45_0:=aN.out;have hY:=cI aC.out 1;have hfs47:=bF aC.out 1;have hns47_0:=aK.out;have hms47_0:=aN.out;refine skip_ (w1:=?_) (by rfl) rfl ?_ ?_
     rotate_left
     ·go_simp
      rfl
     refine hK.out _ _ ?_;clear hK K;refine done_ (done_of HT_.out (by kernel_rfl)) ?_
     try go_wp2
     go_roundg k2
     case measure=>have:=bP.out;have:=eE.out;omega
     case rel=>exact ⟨(wS bO),(dP),(dQ),(cX),(cE),(.slice dV cE.length dW),xE,H',⟨by have:=bP.out;have:=eE.out;omega⟩,⟨kr (Kd.R_mono (rT2 dC.out aC.out (.int .i64 cX) (.slice dV cE.length dW)) (fun _ hk=>trivial))⟩,⟨fm aD.out⟩,⟨bm aC.out⟩,⟨IsS96.mv aE.out⟩,⟨km HK.out⟩,⟨IsS96.bl HB.out⟩⟩

def Z32.j0:Nat→List (S41)→Bool→List Int→Int→Int→Option (Int × Int × Int × Int × Int × Int × Int × Bool)
 | 0,_,_,_,_,_=>none
 | k+1,x5,aH,aC,aD,aE=>if aH=true then ((Z3.f aC aD aE 4).bind fun aG=>(some (aG.1,1,0,0,0,0,0,true))) else ((Z3.f aC aD aE (x5.length:Int)).bind fun aA=>(if 0≤aA.1 then (if aA.1<(x5.length:Int) then (some ((rd_T41 x5 aA.1).f0,(rd_T41 x5 aA.1).f1,(rd_T41 x5 aA.1).f2.f0,(rd_T41 x5 aA.1).f2.f1,(rd_T41 x5 aA.1).f2.f2,(rd_T41 x5 aA.1).f2.f3,(rd_T41 x5 aA.1).f3,(rd_T41 x5 aA.1).f4)) else (none)) else (none)))
def Z32.f (k:Nat) (l0:List Int):Option (Int × Int × Int × Int × Int × Int × Int × Bool):=(Z16.f k l0).bind fun aA=>((Z15.f k aA.1 aA.2.1 aA.2.2).bind fun aC=>((Z1.f k aC.1 aC.2.1 2 0 0 0 0 0 0 false).bind fun aE=>(if (aE.2.2.length:Int)=0 then (Z32.j0 k aE.2.2 true aA.1 aC.2.2.1 aC.2.2.2) else ((Z44.f aA.1 aC.2.2.1 aC.2.2.2 4).bind fun aD=>(Z32.j0 k aE.2.2 aD.1 aA.1 aD.2.1 aD.2.2)))))
theorem Z32.mono_l:∀ k,(∀ y0 y1 y2 y3 y4,LeO (Z32.j0 k y0 y1 y2 y3 y4) (Z32.j0 (k+1) y0 y1 y2 y3 y4))
 | 0=>fun _ _ _ _ _ r h=>by simp [Z32.j0] at h
 | k+1=>by
  have ih0:=Z32.mono_l k
  ·intro y0 y1 y2 y3 y4
   unfold Z32.j0
   repeat' (with_reducible exact lR _)
theorem Z32.mono:∀ a0 k,LeO (Z32.f k a0) (Z32.f (k+1) a0):=by
 intro a0 k;have ih0:=Z32.mono_l k;unfold Z32.f
 repeat' (with_reducible first|apply ih0|apply Z1.mono|apply Z16.mono|apply Z15.mono|exact lR _|refine lI ?_ ?_|refine lB ?_ fun _=>?_)
set_option maxHeartbeats 60000000 in
set_option maxRecDepth 100000 in
theorem Z32.calls (k:Nat) (A0:Option Addr) (c0:Nat) (l0:List Int) (r1 r2 r3 r4 r5 r6 r7:Int) (r8:Bool) (w:World) (hr0:Kd.C (Kd.int .u8) w A0 l0.length l0) (hc0:l0.length≤c0) (h:Z32.f k l0=some (r1,r2,r3,r4,r5,r6,r7,r8)) :
  Calls Tryd.prog 17 #[.slice A0 l0.length c0] w fun e w'=>e=.returned (.agg #[r1,r2,r3,r4,r5,r6,r7,r8])∧Below w.heap.size w w':=by
 have eX:=Tryd.underlying41;have eY:=Tryd.underlying27;have eZ:=Tryd.underlying79;have dR:=aM hr0;have dS:=aM hc0;clear hr0 hc0;have HB:=aM (Below.refl w.heap.size w);have H:((Z16.f k l0).bind fun bM=>((Z15.f k bM.1 bM.2.1 bM.2.2).bind fun bN=>((Z1.f k bN.1 bN.2.1 2 0 0 0 0 0 0 false).bind fun bX=>(if (bX.2.2.length:Int)=0 then (Z32.j0 k bX.2.2 true bM.1 bN.2.2.1 bN.2.2.2) else ((Z44.f bM.1 bN.2.2.1 bN.2.2.2 4).bind fun bW=>(Z32.j0 k bX.2.2 bW.1 bM.1 bW.2.1 bW.2.2))))))=some (r1,r2,r3,r4,r5,r6,r7,r8):=h
 clear h;obtain ⟨⟨aJ,cO,cP⟩,dB,H⟩:=hB H
 try dsimp only at H
 have A2:=aM dB;clear dB;obtain ⟨⟨cC,cD,bD,bG⟩,dC,H⟩:=hB H
 try dsimp only at H
 have A3:=aM dC;clear dC;obtain ⟨⟨bH,bA,aG⟩,dD,H⟩:=hB H
 try dsimp only at H
 have A4:=aM dD;clear dD;have cQ:=aM H;clear H;go_enter Tryd.func17,Tryd.ntmps17
 go_upto_region 3 with (first|((with_reducible refine gD (N:=2) rfl ?_);refine box_event ?hg (N:=2) ?hd (cs:=#[.int .i64 0,.int .i64 0,.int .i64 0,.int .i64 0,.int .i64 0,.int .i64 0,.int .i64 0,.bool false]) (t:=41) ?hr ?_;(case hd=>rfl);(case hg=>rfl);(case hr=>(go_simp;done));intro bP hg w6 hbox hb;have aA:=aM (hbox);have eC:=gF hg HB;have eD:=gF hg HB;replace HB:=rS HB hb;clear hb hbox hg)|((with_reducible refine gC (f:=44) rfl ?_);refine goesL_ (some 7) rfl rfl Tryd.func44 (by kernel_rfl) rfl #[.slice A0 l0.length c0] rfl xR ?_;(with_reducible refine (Z16.calls k _ _ l0 aJ cO cP w _ ?side1 ?side2 ?side3 A2.out).mono ?_);(case side1=>exact bl HB.out);(case side2=>exact dR.out);(case side3=>exact dS.out);rintro e w7 ⟨g985,rfl,hi,hb,hb2⟩;refine ⟨_,rfl,?_⟩;have aC:=aM (hi);have bU:=aM (IsS96.ne_blk hi (bB (bk aA.out) hb2) (by decide));have aT:=aM (Ne.symm (IsS96.ne_blk hi (bB (bk aA.out) hb2) (by decide)));replace aA:=aM (bB (bk aA.out) hb2);replace HB:=aM (hb);(repeat first|clear hb|clear hb2|clear hi))|((with_reducible refine gC (f:=59) rfl ?_);refine goesL_ (some 10) rfl rfl Tryd.func59 (by kernel_rfl) rfl #[.pointer (some ⟨g985,0,none⟩)] rfl xR ?_;(with_reducible refine (Z15.calls k g985 aJ cO cP cC cD bD bG w _ ?side1 ?side2 A3.out).mono ?_);(case side1=>exact IsS96.mv aC.out);(case side2=>exact IsS96.bl HB.out);rintro e w8 ⟨fA,rfl,ho0,hi,hb,hk⟩;refine ⟨_,rfl,?_⟩;have aI:=aM (Kd.R_lower ho0 (below_size (IsS96.bl HB.out)));replace aA:=rP hk aA aT;replace HB:=aM (hb);replace aC:=aM (hi);(repeat first|clear hb|clear hk|clear hi|clear ho0);obtain ⟨dU,dV,dW⟩:=Kd.R_slice aI.out;subst dW)|((with_reducible refine gC (f:=58) rfl ?_);refine goesL_ (some 12) rfl rfl Tryd.func58 (by kernel_rfl) rfl #[.agg #[cC,.slice dU cD.length dV],.agg #[.int .i64 2,.int .i64 0,.int .i64 0,.int .i64 0,.int .i64 0,.int .i64 0,.int .i64 0,.bool false]] rfl xR ?_;(with_reducible refine (Z1.calls k cC _ _ cD 2 0 0 0 0 0 0 false bH bA aG _ ?side1 ?side2 A4.out).mono ?_);(case side1=>exact cM ((Kd.R_reads' aI.out).2.2));(case side2=>exact (Kd.R_reads' aI.out).2.1);rintro e fI ⟨fB,dE,rfl,ho0,ho1,hb⟩;refine ⟨_,rfl,?_⟩;have aV:=aM (Kd.R_lower (Kd.R_new' ho0 (Kd.R_lt (kr aI.out))) (below_size (IsS96.bl HB.out)));have aK:=aM (Kd.R_lower (Kd.R_newB ho1 (g:=bP) (o:=.cells #[.int .i64 0,.int .i64 0,.int .i64 0,.int .i64 0,.int .i64 0,.int .i64 0,.int .i64 0,.bool false] 41 (0,0)) (bk aA.out)) (below_size (IsS96.bl HB.out)));replace aI:=aM (Kd.R_elder' (kr aI.out) (Kd.R_base ho0) hb);replace aA:=rB aA hb;replace aC:=aM (IsS96.below (IsS96.mv aC.out) hb);replace HB:=aM (bS (IsS96.bl HB.out) hb);(repeat first|clear hb|clear ho0|clear ho1))|((with_reducible refine gD (N:=4) rfl ?_);refine box_event ?hg (N:=4) ?hd (cs:=#[.int .i64 0,.slice none 0 0]) (t:=79) ?hr ?_;(case hd=>rfl);(case hg=>rfl);(case hr=>(go_simp;done));intro aN hg fK hbox hb;have aH:=aM (hbox);have eE:=gE hg (below_size (IsS96.bl HB.out));have eF:=gE hg (below_size (IsS96.bl HB.out));have bI:=nM hg aA;have bJ:=nH hg aA;have cA:=nL hg (IsS96.lt (show IsS96 w _ g985 aJ bD bG from IsS96.mv aC.out));have aX:=nG hg (IsS96.lt (show IsS96 w _ g985 aJ bD bG from IsS96.mv aC.out));replace aI:=rK aI hb;replace aV:=rK aV hb;replace aK:=rK aK hb;replace aA:=rB aA hb;replace aC:=aM (IsS96.below (IsS96.mv aC.out) hb);replace HB:=aM (bS (IsS96.bl HB.out) hb);clear hb hbox hg;have eG:=bJ.out;have eH:=bI.out;have eI:=aX.out;have eJ:=cA.out;have eK:=cA2 aH.out;obtain ⟨bK,bL,dF⟩:=Kd.R_slice aV.out;subst dF))
 go_cut [21] (fun dX wc=>∃ (kq:Nat) (bV:Bool) (aD:Int) (aE:Int),dX=.bool bV∧Aside0 (Z32.j0 kq aG bV aJ aD aE=some (r1,r2,r3,r4,r5,r6,r7,r8))∧Aside0 (kq≤k)∧Aside0 (Kd.R k41 41 wc w.heap.size (fun k_=>k_≠bP) dE aG)∧Aside0 (Kd.R k102 102 wc w.heap.size (fun _=>True) (.slice bK bA.length bL) bA)∧Aside0 (wc.heap[bP]?=some (.cells #[.int .i64 0,.int .i64 0,.int .i64 0,.int .i64 0,.int .i64 0,.int .i64 0,.int .i64 0,.bool false] 41 (0,0)))∧Aside0 (wc.heap[aN]?=some (.cells #[bH,(.slice bK bA.length bL)] 79 (0,0)))∧Aside0 (IsS96 w wc g985 aJ aD aE)∧Aside0 (Below w.heap.size w wc))
 case first =>
  have H:=cQ.out;clear cQ
  by_cases bQ:(aG.length:Int)=0
  case pos =>
   rw [if_pos bQ] at H
   have bO:((aG.length:Int) == 0)=true:=beq_iff_eq.mpr bQ;have cE:((aG.length:Int) != 0)=false:=bne_eq_false_iff_eq.mpr bQ;clear bQ
   (skip)
   have H':=aM H;clear H;obtain ⟨fC,fD,dG⟩:=Kd.R_slice aK.out;subst dG;go_wp2
   go_meet
   case rel=>exact ⟨_,(true),(bD),(bG),xE,H',⟨by omega⟩,⟨kr (Kd.R_mono (rF2 (g:=aN) (Kd.R_types aK.out aH.out (by decide)) (fun _ hk=>hk.2) (.int .i64 bH) (.slice bK bA.length bL)) (fun _ hk=>hk.1.2))⟩,⟨kr (Kd.R_mono (rT2 aV.out aH.out (.int .i64 bH) (.slice bK bA.length bL)) (fun _ hk=>trivial))⟩,⟨fm aA.out⟩,⟨bm aH.out⟩,⟨IsS96.mv aC.out⟩,⟨IsS96.bl HB.out⟩⟩
  rw [if_neg bQ] at H
  have bO:((aG.length:Int) == 0)=false:=beq_eq_false_iff_ne.mpr bQ;have cE:((aG.length:Int) != 0)=true:=bne_iff_ne.mpr bQ;have cU:¬ (aG=[]):=fun h_=>bQ (by rw [h_];rfl)
  (skip)
  obtain ⟨⟨cG,cH,cK⟩,cR,H⟩:=hB H
  try dsimp only at H
  have dY:=aM cR;clear cR;have H':=aM H;clear H;obtain ⟨fE,fF,dH⟩:=Kd.R_slice aK.out;subst dH;go_wp2_with ((go_at_call 56;(with_reducible refine (Z44.calls g985 aJ bD bG 4 cG cH cK w _ ?side1 ?side2 dY.out).mono ?_);(case side1=>exact IsS96.mv aC.out);(case side2=>exact IsS96.bl HB.out);rintro e fL ⟨rfl,hi,hb,hk⟩;replace aA:=aM (KeepBut.blk hk (fm aA.out) aT.out (by simp));replace aI:=aM (IsS96.rJ aJ bD bG (IsS96.mv aC.out) (kr (rT2 aI.out aH.out (.int .i64 bH) (.slice bK bA.length bL))) hk);replace aV:=aM (IsS96.rJ aJ bD bG (IsS96.mv aC.out) (kr (rT2 aV.out aH.out (.int .i64 bH) (.slice bK bA.length bL))) hk);replace aK:=aM (IsS96.rJ aJ bD bG (IsS96.mv aC.out) (kr (rT2 aK.out aH.out (.int .i64 bH) (.slice bK bA.length bL))) hk);replace aH:=aM (KeepBut.blk hk (g':=aN) (o:=.cells #[bH,.slice bK bA.length bL] 79 (0,0)) (bm aH.out) aX.out (by simp));replace HB:=aM (hb);replace aC:=aM (hi);(repeat first|clear hb|clear hk|clear hi)))
  go_meet
  case rel=>exact ⟨_,(cG),(cH),(cK),xE,H',⟨by omega⟩,⟨kr (Kd.R_mono aK.out (fun _ hk=>hk.2))⟩,⟨kr (Kd.R_mono aV.out (fun _ hk=>trivial))⟩,⟨bk aA.out⟩,⟨bk aH.out⟩,⟨IsS96.mv aC.out⟩,⟨IsS96.bl HB.out⟩⟩
 case rest =>
  clear cQ
  repeat first|clear c1|clear p2|clear c4|clear c5|clear fM|clear fN|clear bQ|clear bO|clear cE|clear cU|clear fO
  obtain ⟨kq,bV,aD,aE,rfl,HA,HJ4,bT,aW,aA,aH,aC,HB⟩:=hcut;cases kq with
  | zero=>exact absurd HA.out (by simp [Z32.j0])
  | succ fP =>
   have H:=HA.out;clear HA;simp only [Z32.j0] at H
   by_cases cL:bV=true
   case pos =>
    subst cL;replace H:=hP H rfl;obtain ⟨⟨cN,cV,cW⟩,cS,H⟩:=hB H
    try dsimp only at H
    have dZ:=aM cS;clear cS;simp only [Option.some.injEq,Prod.mk.injEq] at H;obtain ⟨rfl,rfl,rfl,rfl,rfl,rfl,rfl,rfl⟩:=H;go_wp2_with (((with_reducible refine gC (f:=60) rfl ?_);refine goesL_ (some 23) rfl rfl Tryd.func60 (by kernel_rfl) rfl #[.pointer (some ⟨g985,0,none⟩),.int .i64 4] rfl xR ?_;(with_reducible refine (Z3.calls g985 aJ aD aE 4 cN cV cW w _ ?side1 ?side2 dZ.out).mono ?_);(case side1=>exact IsS96.mv aC.out);(case side2=>exact IsS96.bl HB.out);rintro e fQ ⟨rfl,hi,hb,hk⟩;refine ⟨_,rfl,?_⟩;replace bT:=aM (IsS96.rJ aJ aD aE (IsS96.mv aC.out) (kr bT.out) hk);replace aW:=aM (IsS96.rJ aJ aD aE (IsS96.mv aC.out) (kr aW.out) hk);replace aA:=rP hk aA aT;replace aH:=rP hk aH aX;replace HB:=aM (hb);replace aC:=aM (hi);(repeat first|clear hb|clear hk|clear hi);have eL:=bI.out;have eM:=bJ.out;have eN:=aT.out;have eO:=bU.out;have eP:=cA8 aA.out))
    refine bodyPost_ret (results_cell_row rfl _ _ bP 41 #[cN,.int .i64 1,.int .i64 0,.int .i64 0,.int .i64 0,.int .i64 0,.int .i64 0,.bool true] (0,0) _ rfl (bm aA.out) Tryd.underlying41 rfl (by kernel_rfl)) rfl ?_
    exact ⟨xW,IsS96.bl HB.out⟩
   replace cL:=Bool.eq_false_iff.mpr cL;subst cL;replace H:=hF H;obtain ⟨⟨aQ,cX,cY⟩,cT,H⟩:=hB H
   try dsimp only at H
   have eA:=aM cT;clear cT;obtain ⟨eQ,H⟩:=gI H;obtain ⟨eR,H⟩:=gI H;simp only [Option.some.injEq,Prod.mk.injEq] at H;obtain ⟨rfl,rfl,rfl,rfl,rfl,rfl,rfl,rfl⟩:=H;obtain ⟨fG,fH,dI⟩:=Kd.R_slice bT.out;subst dI;go_wp2_with (((with_reducible refine gC (f:=60) rfl ?_);refine goesL_ (some 29) rfl rfl Tryd.func60 (by kernel_rfl) rfl #[.pointer (some ⟨g985,0,none⟩),.int .i64 (aG.length:Int)] rfl xR ?_;(with_reducible refine (Z3.calls g985 aJ aD aE (aG.length:Int) aQ cX cY w _ ?side1 ?side2 eA.out).mono ?_);(case side1=>exact IsS96.mv aC.out);(case side2=>exact IsS96.bl HB.out);rintro e fS ⟨rfl,hi,hb,hk⟩;refine ⟨_,rfl,?_⟩;replace bT:=aM (IsS96.rJ aJ aD aE (IsS96.mv aC.out) (kr bT.out) hk);replace aW:=aM (IsS96.rJ aJ aD aE (IsS96.mv aC.out) (kr aW.out) hk);replace aA:=rP hk aA aT;replace aH:=rP hk aH aX;replace HB:=aM (hb);replace aC:=aM (hi);(repeat first|clear hb|clear hk|clear hi);have bY:0≤(aQ:Int):=dT;have bZ:aQ<(aG.length:Int):=dT;obtain ⟨eB,dA,dJ,dK,dL,dM,dN,dO,dP,dQ⟩:=at_T41 (Kd.R_reads' bT.out).2.2 aQ bY bZ;cases dA;replace bY:=eq_true bY;replace bZ:=eq_true bZ;have eS:=bI.out;have eT:=bJ.out;have eU:=aT.out;have eV:=bU.out;have eW:=cA8 aA.out))
   refine bodyPost_ret (results_cell_row rfl _ _ bP 41 #[((rd_T41 aG aQ).f0),((rd_T41 aG aQ).f1),((rd_T41 aG aQ).f2.f0),((rd_T41 aG aQ).f2.f1),((rd_T41 aG aQ).f2.f2),((rd_T41 aG aQ).f2.f3),((rd_T41 aG aQ).f3),((rd_T41 aG aQ).f4)] (0,0) _ rfl (bm aA.out) Tryd.underlying41 rfl (by kernel_rfl)) rfl ?_
   exact ⟨xW,IsS96.bl HB.out⟩





-- NOT PRINTED: function 104 (strconv_numDigits)

-- NOT PRINTED: function 105 (strconv_formatBase10)


-- NOT PRINTED: function 121 (bits_TrailingZeros32)

-- NOT PRINTED: function 122 (bits_TrailingZeros64)

-- NOT PRINTED: function 115 (bits_TrailingZeros)

-- NOT PRINTED: function 106 (strconv_formatBits)

-- NOT PRINTED: function 95 (strconv_FormatInt)

-- NOT PRINTED: function 87 (strconv_Itoa_87)

def Z72.f (_k:Nat) (a0:Int):Option (ByteArray):=if -9223372036854775808≤a0∧a0≤9223372036854775807 then some ⟨(Lib.itoa a0).toArray⟩ else none
theorem Z72.mono:∀ a0 k,LeO (Z72.f k a0) (Z72.f (k+1) a0):=fun _ _=>LeO.refl _
theorem Z72.calls (k:Nat) (a0:Int) (r:ByteArray) (w:World) (hT:TabI w) (h:Z72.f k a0=some r) :
  Calls Tryd.prog 73 #[a0] w fun e w'=>e=.returned (.string r)∧Below w.heap.size w w':=by
 unfold Z72.f at h
 by_cases hb:-9223372036854775808≤a0∧a0≤9223372036854775807
 case neg =>
  rw [if_neg hb] at h
  cases h
 rw [if_pos hb] at h
 obtain rfl:=Option.some.inj h;exact itoa_below _ hb.1 hb.2 w hT

def Z21.f (k:Nat) (a0:Int):Option (ByteArray):=(Z72.f k a0).bind fun aA=>(some aA)
theorem Z21.mono:∀ a0 k,LeO (Z21.f k a0) (Z21.f (k+1) a0):=by
 intro a0 k;unfold Z21.f
 repeat' (with_reducible first|apply Z72.mono|exact lR _|refine lB ?_ fun _=>?_)
set_option maxHeartbeats 60000000 in
set_option maxRecDepth 100000 in
theorem Z21.calls (k:Nat) (a0:Int) (r:ByteArray) (w:World) (hT:TabI w) (h:Z21.f k a0=some r) :
  Calls Tryd.prog 34 #[a0] w fun e w'=>e=.returned (.string r)∧Below w.heap.size w w':=by
 have HB:=aM (Below.refl w.heap.size w);have H:((Z72.f k a0).bind fun aA=>(some aA))=some r:=h
 clear h;obtain ⟨aA,aC,H⟩:=hB H;have A2:=aM aC;clear aC;obtain rfl:=Option.some.inj H;go_enter Tryd.func34,Tryd.ntmps34
 go_wp2_with (((with_reducible refine gC (f:=73) rfl ?_);refine goesL_ (some 4) rfl rfl Tryd.func73 (by kernel_rfl) rfl #[a0] rfl xR ?_;(with_reducible refine (Z72.calls k a0 aA _ (tabI_below hT ?hbt_) A2.out).mono ?_);(case hbt_=>repeat ((with_reducible exact HB.out)));rintro e w3 ⟨rfl,hb⟩;refine ⟨_,rfl,?_⟩;replace HB:=rS HB hb;(try clear hb)))
 go_ret
 exact ⟨xW,bl HB.out⟩

end Go.Proofs.YtljbdchibfjbdaaDoor.PFnIns
