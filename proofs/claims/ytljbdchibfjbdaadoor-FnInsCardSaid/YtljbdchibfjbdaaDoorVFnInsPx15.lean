/- A part of the proof of laws.FnIns. No condition beyond what its theorems say. -/
import Derived.Test.YtljbdchibfjbdaaDoorVFnInsPx12
namespace Go.Proofs.YtljbdchibfjbdaaDoor.PFnIns
open Go.RowKit Go.Proofs.YtljbdchibfjbdaaDoorW.PrintWords Go.Proofs.YtljbdchibfjbdaaDoorW.PrintLast Go.Proofs.YtljbdchibfjbdaaDoorW.PrintMore
set_option linter.unusedVariables false
set_option linter.unusedSimpArgs false

def Z39.j0:Nat→Bool→Bool→Bool→Int→Int→Int→Int→Int→Int→Int→Int→Bool→Option (Bool × Bool × Int × Int × Int × Int × Int × Int × Int × Int × Bool)
 | 0,_,_,_,_,_,_,_,_,_,_,_,_=>none
 | k+1,aT,aC,aH,aI,aJ,aK,aN,aQ,aA,aD,aE,aG=>if aT=true then (some (aC,aH,aI,aJ,aK,aN,aQ,aA,aD,aE,aG)) else (if (wrap64 (aA - 1))=0 then (some (aC,false,0,0,0,0,0,wrap64 (aA - 1),aD,aE,aG)) else (some (aC,aH,aI,aJ,aK,aN,aQ,wrap64 (aA - 1),aD,aE,aG)))
def Z39.f (k:Nat) (aD aA:Bool) (aE aG aH aI aJ aK aN aQ:Int) (aC:Bool):Option (Bool × Bool × Int × Int × Int × Int × Int × Int × Int × Int × Bool):=(Z9.f k aD aA aE aG aH aI aJ aK aN aQ aC).bind fun aT=>(if aT=true then (Z39.j0 k (!aA) aD aA aE aG aH aI aJ aK aN aQ aC) else (Z39.j0 k true aD aA aE aG aH aI aJ aK aN aQ aC))
theorem Z39.mono_l:∀ k,(∀ y0 y1 y2 y3 y4 y5 y6 y7 y8 y9 aA aC,LeO (Z39.j0 k y0 y1 y2 y3 y4 y5 y6 y7 y8 y9 aA aC) (Z39.j0 (k+1) y0 y1 y2 y3 y4 y5 y6 y7 y8 y9 aA aC))
 | 0=>fun _ _ _ _ _ _ _ _ _ _ _ _ r h=>by simp [Z39.j0] at h
 | k+1=>by
  have ih0:=Z39.mono_l k
  ·intro y0 y1 y2 y3 y4 y5 y6 y7 y8 y9 aA aC
   unfold Z39.j0
   repeat' (with_reducible exact lR _)
theorem Z39.mono:∀ a0 a1 a2 a3 a4 a5 a6 a7 a8 a9 aA k,LeO (Z39.f k a0 a1 a2 a3 a4 a5 a6 a7 a8 a9 aA) (Z39.f (k+1) a0 a1 a2 a3 a4 a5 a6 a7 a8 a9 aA):=by
 intro a0 a1 a2 a3 a4 a5 a6 a7 a8 a9 aA k;have ih0:=Z39.mono_l k;unfold Z39.f
 repeat' (with_reducible first|apply ih0|apply Z9.mono|refine lI ?_ ?_|refine lB ?_ fun _=>?_)
set_option maxHeartbeats 60000000 in
set_option maxRecDepth 100000 in
theorem Z39.calls (k:Nat) (aH aG:Bool) (aK aN aQ aT aV aC aI aJ:Int) (aD r1 r2:Bool) (r3 r4 r5 r6 r7 r8 r9 bI:Int) (bJ:Bool) (w:World) (h:Z39.f k aH aG aK aN aQ aT aV aC aI aJ aD=some (r1,r2,r3,r4,r5,r6,r7,r8,r9,bI,bJ)) :
  Calls Tryd.prog 100 #[.agg #[aH,aG,aK,aN,aQ,aT,aV,aC,aI,aJ,aD]] w fun e w'=>e=.returned (.agg #[r1,r2,r3,r4,r5,r6,r7,r8,r9,bI,bJ])∧Below w.heap.size w w':=by
 have bT:=Tryd.underlying102;have cT:=Tryd.underlying25;have HB:=aM (Below.refl w.heap.size w);have H:((Z9.f k aH aG aK aN aQ aT aV aC aI aJ aD).bind fun bH=>(if bH=true then (Z39.j0 k (!aG) aH aG aK aN aQ aT aV aC aI aJ aD) else (Z39.j0 k true aH aG aK aN aQ aT aV aC aI aJ aD)))=some (r1,r2,r3,r4,r5,r6,r7,r8,r9,bI,bJ):=h
 clear h;have bL:=aM H;clear H;go_enter Tryd.func100,Tryd.ntmps100
 go_upto_region 1 with (first|((with_reducible refine gD (N:=1) rfl ?_);refine bE (N:=1) (cs:=#[aH,aG,aK,aN,aQ,aT,aV,aC,aI,aJ,aD]) (t:=102) ?_;intro bM hg w3 hbox hb;have aA:=aM (hbox);have bU:=gF hg HB;have bV:=gF hg HB;replace HB:=rS HB hb;clear hb hbox hg)|((with_reducible refine gD (N:=2) rfl ?_);refine bE (N:=2) (cs:=#[.bool false,.bool false,.int .i64 0,.int .i64 0,.int .i64 0,.int .i64 0,.int .i64 0,.int .i64 0,.int .i64 0,.int .i64 0,.bool false]) (t:=102) ?_;intro bA hg w4 hbox hb;have aE:=aM (hbox);have bW:=gF hg HB;have bX:=gF hg HB;have aW:=nM hg aA;have aX:=nH hg aA;replace aA:=rB aA hb;replace HB:=rS HB hb;clear hb hbox hg))
 (try simp only [Act.put,sA,sZ,sS])
 go_cut [10] (fun bQ wc=>∃ (kq:Nat) (bD:Bool),bQ=.bool bD∧Aside0 (Z39.j0 kq bD aH aG aK aN aQ aT aV aC aI aJ aD=some (r1,r2,r3,r4,r5,r6,r7,r8,r9,bI,bJ))∧Aside0 (kq≤k)∧Aside0 (wc.heap[bM]?=some (.cells #[aH,aG,aK,aN,aQ,aT,aV,aC,aI,aJ,aD] 102 (0,0)))∧Aside0 (wc.heap[bA]?=some (.cells #[.bool false,.bool false,.int .i64 0,.int .i64 0,.int .i64 0,.int .i64 0,.int .i64 0,.int .i64 0,.int .i64 0,.int .i64 0,.bool false] 102 (0,0)))∧Aside0 (Below w.heap.size w wc))
 case first =>
  have H:=bL.out;clear bL;obtain ⟨bH,bP,H⟩:=hB H;have A5:=aM bP;clear bP
  by_cases c6:bH=true
  case pos =>
   subst c6;replace H:=hP H rfl;have H':=aM H;clear H;have cU:=aW.out;have cV:=aX.out;have cW:=cA11 aA.out;go_wp2_with (((with_reducible refine gC (f:=89) rfl ?_);refine goesL_ (some 4) rfl rfl Tryd.func89 (by kernel_rfl) rfl #[.agg #[aH,aG,aK,aN,aQ,aT,aV,aC,aI,aJ,aD]] rfl xR ?_;(with_reducible refine (Z9.calls k aH aG aK aN aQ aT aV aC aI aJ aD true _ A5.out).mono ?_);rintro e w9 ⟨rfl,hb⟩;refine ⟨_,rfl,?_⟩;replace aA:=rB aA hb;replace aE:=rB aE hb;replace HB:=rS HB hb;(try clear hb);have bY:=cA11 aA.out))
   go_meet
   case rel=>exact ⟨_,(!aG),xE,H',⟨by omega⟩,⟨bk aA.out⟩,⟨bk aE.out⟩,⟨bl HB.out⟩⟩
  replace c6:=Bool.eq_false_iff.mpr c6;subst c6;replace H:=hF H;have H':=aM H;clear H;have bZ:=aW.out;have cA:=aX.out;have cC:=cA11 aA.out;go_wp2_with (((with_reducible refine gC (f:=89) rfl ?_);refine goesL_ (some 4) rfl rfl Tryd.func89 (by kernel_rfl) rfl #[.agg #[aH,aG,aK,aN,aQ,aT,aV,aC,aI,aJ,aD]] rfl xR ?_;(with_reducible refine (Z9.calls k aH aG aK aN aQ aT aV aC aI aJ aD false _ A5.out).mono ?_);rintro e cX ⟨rfl,hb⟩;refine ⟨_,rfl,?_⟩;replace aA:=rB aA hb;replace aE:=rB aE hb;replace HB:=rS HB hb;(try clear hb)))
  go_meet
  case rel=>exact ⟨_,(true),xE,H',⟨by omega⟩,⟨bk aA.out⟩,⟨bk aE.out⟩,⟨bl HB.out⟩⟩
 case rest =>
  clear bL
  repeat first|clear c1|clear p2|clear c6|clear c7|clear c8|clear cY|clear dA
  obtain ⟨kq,bD,rfl,HA,HJ1,aA,aE,HB⟩:=hcut;cases kq with
  | zero=>exact absurd HA.out (by simp [Z39.j0])
  | succ dB =>
   have H:=HA.out;clear HA;simp only [Z39.j0] at H
   by_cases bK:bD=true
   case pos =>
    subst bK;replace H:=hP H rfl;simp only [Option.some.injEq,Prod.mk.injEq] at H;obtain ⟨rfl,rfl,rfl,rfl,rfl,rfl,rfl,rfl,rfl,rfl,rfl⟩:=H;have cD:=aW.out;have cE:=aX.out;have cG:=cA11 aA.out;have cH:=cA11 aE.out;go_wp2
    refine bodyPost_ret (results_cell_row rfl _ _ bA 102 #[aH,aG,aK,aN,aQ,aT,aV,aC,aI,aJ,aD] (0,0) _ rfl (bm aE.out) Tryd.underlying102 rfl (by kernel_rfl)) rfl ?_
    exact ⟨xW,bl HB.out⟩
   replace bK:=Bool.eq_false_iff.mpr bK;subst bK;replace H:=hF H
   by_cases bG:(wrap64 (aC - 1))=0
   case neg =>
    rw [if_neg bG] at H
    have bN:((wrap64 (aC - 1)) == 0)=false:=beq_eq_false_iff_ne.mpr bG;have bO:((wrap64 (aC - 1)) != 0)=true:=bne_iff_ne.mpr bG;simp only [Option.some.injEq,Prod.mk.injEq] at H;obtain ⟨rfl,rfl,rfl,rfl,rfl,rfl,rfl,rfl,rfl,rfl,rfl⟩:=H;have cK:=aW.out;have cL:=aX.out;have cN:=cA11 aA.out;have cO:=cA11 aE.out;go_wp2
    refine bodyPost_ret (results_cell_row rfl _ _ bA 102 #[aH,aG,aK,aN,aQ,aT,aV,.int .i64 (wrap64 (aC - 1)),aI,aJ,aD] (0,0) _ rfl (bm aE.out) Tryd.underlying102 rfl (by kernel_rfl)) rfl ?_
    exact ⟨xW,bl HB.out⟩
   rw [if_pos bG] at H
   have bN:((wrap64 (aC - 1)) == 0)=true:=beq_iff_eq.mpr bG;have bO:((wrap64 (aC - 1)) != 0)=false:=bne_eq_false_iff_eq.mpr bG;clear bG;simp only [Option.some.injEq,Prod.mk.injEq] at H;obtain ⟨rfl,rfl,rfl,rfl,rfl,rfl,rfl,rfl,rfl,rfl,rfl⟩:=H;have cP:=aW.out;have cQ:=aX.out;have cR:=cA11 aA.out;have cS:=cA11 aE.out;go_wp2
   refine bodyPost_ret (results_cell_row rfl _ _ bA 102 #[aH,.bool false,.int .i64 0,.int .i64 0,.int .i64 0,.int .i64 0,.int .i64 0,.int .i64 (wrap64 (aC - 1)),aI,aJ,aD] (0,0) _ rfl (bm aE.out) Tryd.underlying102 rfl (by kernel_rfl)) rfl ?_
   exact ⟨xW,bl HB.out⟩

def Z68.f (aD aE:Bool) (aG aH aI aJ aK aN aA aC:Int) (aQ:Bool):Option (Bool × Bool × Int × Int × Int × Int × Int × Int × Int × Int × Bool):=if aA=1 then (some (aD,aE,aG,aH,aI,aJ,aK,aN,aA,aC,(aC == 0))) else (if aA=2 then (some (aD,aE,aG,aH,aI,aJ,aK,aN,aA,aC,(aC == 0))) else (some (aD,aE,aG,aH,aI,aJ,aK,aN,aA,aC,false)))
set_option maxHeartbeats 60000000 in
set_option maxRecDepth 100000 in
theorem Z68.calls (aH aI:Bool) (aJ aK aN aQ aT aV aA aD:Int) (aX r1 r2:Bool) (r3 r4 r5 r6 r7 r8 r9 bK:Int) (bL:Bool) (w:World) (h:Z68.f aH aI aJ aK aN aQ aT aV aA aD aX=some (r1,r2,r3,r4,r5,r6,r7,r8,r9,bK,bL)) :
  Calls Tryd.prog 101 #[.agg #[aH,aI,aJ,aK,aN,aQ,aT,aV,aA,aD,aX]] w fun e w'=>e=.returned (.agg #[r1,r2,r3,r4,r5,r6,r7,r8,r9,bK,bL])∧Below w.heap.size w w':=by
 have bQ:=Tryd.underlying102;have HB:=aM (Below.refl w.heap.size w);have H:(if aA=1 then (some (aH,aI,aJ,aK,aN,aQ,aT,aV,aA,aD,(aD == 0))) else (if aA=2 then (some (aH,aI,aJ,aK,aN,aQ,aT,aV,aA,aD,(aD == 0))) else (some (aH,aI,aJ,aK,aN,aQ,aT,aV,aA,aD,false))))=some (r1,r2,r3,r4,r5,r6,r7,r8,r9,bK,bL):=h;clear h
 by_cases c2:aA=1
 case pos =>
  rw [if_pos c2] at H
  have bM:(aA == 1)=true:=beq_iff_eq.mpr c2;have bN:(aA != 1)=false:=bne_eq_false_iff_eq.mpr c2;clear c2;simp only [Option.some.injEq,Prod.mk.injEq] at H;obtain ⟨rfl,rfl,rfl,rfl,rfl,rfl,rfl,rfl,rfl,rfl,rfl⟩:=H;go_enter Tryd.func101,Tryd.ntmps101
  go_wp2_with (first|((with_reducible refine gD (N:=1) rfl ?_);refine bE (N:=1) (cs:=#[aH,aI,aJ,aK,aN,aQ,aT,aV,aA,aD,aX]) (t:=102) ?_;intro bD hg w3 hbox hb;have aC:=aM (hbox);have bG:=gF hg HB;have bH:=gF hg HB;replace HB:=rS HB hb;clear hb hbox hg)|((with_reducible refine gD (N:=2) rfl ?_);refine bE (N:=2) (cs:=#[.bool false,.bool false,.int .i64 0,.int .i64 0,.int .i64 0,.int .i64 0,.int .i64 0,.int .i64 0,.int .i64 0,.int .i64 0,.bool false]) (t:=102) ?_;intro bA hg w4 hbox hb;have aW:=aM (hbox);have bI:=gF hg HB;have bJ:=gF hg HB;have aE:=nM hg aC;have aG:=nH hg aC;replace aC:=rB aC hb;replace HB:=rS HB hb;clear hb hbox hg;have cC:=aE.out;have cD:=aG.out;have cE:=cA11 aC.out;have cG:=cA11 aW.out))
  refine bodyPost_ret (results_cell_row rfl _ _ bA 102 #[aH,aI,aJ,aK,aN,aQ,aT,aV,aA,aD,.bool (aD == 0)] (0,0) _ rfl (bm aW.out) Tryd.underlying102 rfl (by kernel_rfl)) rfl ?_
  exact ⟨xW,bl HB.out⟩
 rw [if_neg c2] at H
 have bM:(aA == 1)=false:=beq_eq_false_iff_ne.mpr c2;have bN:(aA != 1)=true:=bne_iff_ne.mpr c2
 by_cases c8:aA=2
 case neg =>
  rw [if_neg c8] at H
  have bO:(aA == 2)=false:=beq_eq_false_iff_ne.mpr c8;have bP:(aA != 2)=true:=bne_iff_ne.mpr c8;simp only [Option.some.injEq,Prod.mk.injEq] at H;obtain ⟨rfl,rfl,rfl,rfl,rfl,rfl,rfl,rfl,rfl,rfl,rfl⟩:=H;go_enter Tryd.func101,Tryd.ntmps101
  go_wp2_with (first|((with_reducible refine gD (N:=1) rfl ?_);refine bE (N:=1) (cs:=#[aH,aI,aJ,aK,aN,aQ,aT,aV,aA,aD,aX]) (t:=102) ?_;intro bD hg cH hbox hb;have aC:=aM (hbox);have bG:=gF hg HB;have bH:=gF hg HB;replace HB:=rS HB hb;clear hb hbox hg)|((with_reducible refine gD (N:=2) rfl ?_);refine bE (N:=2) (cs:=#[.bool false,.bool false,.int .i64 0,.int .i64 0,.int .i64 0,.int .i64 0,.int .i64 0,.int .i64 0,.int .i64 0,.int .i64 0,.bool false]) (t:=102) ?_;intro bA hg cK hbox hb;have aW:=aM (hbox);have bI:=gF hg HB;have bJ:=gF hg HB;have aE:=nM hg aC;have aG:=nH hg aC;replace aC:=rB aC hb;replace HB:=rS HB hb;clear hb hbox hg;have bT:=aE.out;have bU:=aG.out;have bV:=cA11 aC.out;have bW:=cA11 aW.out))
  refine bodyPost_ret (results_cell_row rfl _ _ bA 102 #[aH,aI,aJ,aK,aN,aQ,aT,aV,aA,aD,.bool false] (0,0) _ rfl (bm aW.out) Tryd.underlying102 rfl (by kernel_rfl)) rfl ?_
  exact ⟨xW,bl HB.out⟩
 rw [if_pos c8] at H
 have bO:(aA == 2)=true:=beq_iff_eq.mpr c8;have bP:(aA != 2)=false:=bne_eq_false_iff_eq.mpr c8;clear c8;simp only [Option.some.injEq,Prod.mk.injEq] at H;obtain ⟨rfl,rfl,rfl,rfl,rfl,rfl,rfl,rfl,rfl,rfl,rfl⟩:=H;go_enter Tryd.func101,Tryd.ntmps101
 go_wp2_with (first|((with_reducible refine gD (N:=1) rfl ?_);refine bE (N:=1) (cs:=#[aH,aI,aJ,aK,aN,aQ,aT,aV,aA,aD,aX]) (t:=102) ?_;intro bD hg w9 hbox hb;have aC:=aM (hbox);have bG:=gF hg HB;have bH:=gF hg HB;replace HB:=rS HB hb;clear hb hbox hg)|((with_reducible refine gD (N:=2) rfl ?_);refine bE (N:=2) (cs:=#[.bool false,.bool false,.int .i64 0,.int .i64 0,.int .i64 0,.int .i64 0,.int .i64 0,.int .i64 0,.int .i64 0,.int .i64 0,.bool false]) (t:=102) ?_;intro bA hg cL hbox hb;have aW:=aM (hbox);have bI:=gF hg HB;have bJ:=gF hg HB;have aE:=nM hg aC;have aG:=nH hg aC;replace aC:=rB aC hb;replace HB:=rS HB hb;clear hb hbox hg;have bX:=aE.out;have bY:=aG.out;have bZ:=cA11 aC.out;have cA:=cA11 aW.out))
 refine bodyPost_ret (results_cell_row rfl _ _ bA 102 #[aH,aI,aJ,aK,aN,aQ,aT,aV,aA,aD,.bool (aD == 0)] (0,0) _ rfl (bm aW.out) Tryd.underlying102 rfl (by kernel_rfl)) rfl ?_
 exact ⟨xW,bl HB.out⟩

end Go.Proofs.YtljbdchibfjbdaaDoor.PFnIns
