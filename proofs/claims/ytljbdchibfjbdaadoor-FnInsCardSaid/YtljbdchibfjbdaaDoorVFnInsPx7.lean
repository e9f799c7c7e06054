/- A part of the proof of laws.FnIns. No condition beyond what its theorems say. -/
import Derived.Test.YtljbdchibfjbdaaDoorVFnInsPx0
namespace Go.Proofs.YtljbdchibfjbdaaDoor.PFnIns
open Go.RowKit Go.Proofs.YtljbdchibfjbdaaDoorW.PrintWords Go.Proofs.YtljbdchibfjbdaaDoorW.PrintLast Go.Proofs.YtljbdchibfjbdaaDoorW.PrintMore
set_option linter.unusedVariables false
set_option linter.unusedSimpArgs false

mutual
def Z12.l0:Nat→List Int→Int→Int→Int→Option (Int × Int × Bool)
 | 0,_,_,_,_=>none
 | k+1,x0,x1,x7,x8=>if x8<5 then (Z12.j1 k x0 x1 x7 x8 (decide (x1<(wrap64 ((x0.length:Int) - x8))))) else (Z12.j1 k x0 x1 x7 x8 false)
def Z12.j1:Nat→List Int→Int→Int→Int→Bool→Option (Int × Int × Bool)
 | 0,_,_,_,_,_=>none
 | k+1,x0,x1,x7,x8,aA=>if aA=true then (if 0≤(wrap64 (x1+x8)) then (if (wrap64 (x1+x8))<(x0.length:Int) then (if 0≤(IntKind.u64.wrap (wrap64 (7*x8))) then (if (wrap64 (rd x0 (wrap64 (x1+x8)))) ≥ 128 then (Z12.l0 k x0 x1 (Go.bits .or .i64 x7 (shl .i64 (Go.bits .and .i64 (wrap64 (rd x0 (wrap64 (x1+x8)))) 127) (IntKind.u64.wrap (wrap64 (7*x8))))) (wrap64 (x8+1))) else (if (wrap64 (rd x0 (wrap64 (x1+x8))))=0 then (if x8 > 0 then (some (0,0,false)) else (if (Go.bits .or .i64 x7 (shl .i64 (Go.bits .and .i64 (wrap64 (rd x0 (wrap64 (x1+x8)))) 127) (IntKind.u64.wrap (wrap64 (7*x8))))) > 2147483647 then (some (0,0,false)) else (some (Go.bits .or .i64 x7 (shl .i64 (Go.bits .and .i64 (wrap64 (rd x0 (wrap64 (x1+x8)))) 127) (IntKind.u64.wrap (wrap64 (7*x8)))),wrap64 ((wrap64 (x1+x8))+1),true)))) else (if (Go.bits .or .i64 x7 (shl .i64 (Go.bits .and .i64 (wrap64 (rd x0 (wrap64 (x1+x8)))) 127) (IntKind.u64.wrap (wrap64 (7*x8))))) > 2147483647 then (some (0,0,false)) else (some (Go.bits .or .i64 x7 (shl .i64 (Go.bits .and .i64 (wrap64 (rd x0 (wrap64 (x1+x8)))) 127) (IntKind.u64.wrap (wrap64 (7*x8)))),wrap64 ((wrap64 (x1+x8))+1),true))))) else (none)) else (none)) else (none)) else (some (0,0,false))
end
def Z12.f (k:Nat) (l0:List Int) (a1:Int):Option (Int × Int × Bool):=if a1<0 then (some (0,0,false)) else (Z12.l0 k l0 a1 0 0)
theorem Z12.mono_l:∀ k,(∀ y0 y1 y2 y3,LeO (Z12.l0 k y0 y1 y2 y3) (Z12.l0 (k+1) y0 y1 y2 y3))∧(∀ y0 y1 y2 y3 y4,LeO (Z12.j1 k y0 y1 y2 y3 y4) (Z12.j1 (k+1) y0 y1 y2 y3 y4))
 | 0=>by refine ⟨?_,?_⟩ <;> intros <;> intro r h <;> simp [Z12.l0,Z12.j1] at h
 | k+1=>by
  obtain ⟨ih0,ih1⟩:=Z12.mono_l k;refine ⟨?_,?_⟩
  ·intro y0 y1 y2 y3
   unfold Z12.l0
   repeat' (with_reducible first|apply ih1|refine lI ?_ ?_)
  ·intro y0 y1 y2 y3 y4
   unfold Z12.j1
   repeat' (with_reducible first|apply ih0|exact lR _|refine lI ?_ ?_)
theorem Z12.mono:∀ a0 a1 k,LeO (Z12.f k a0 a1) (Z12.f (k+1) a0 a1):=by
 intro a0 a1 k;obtain ⟨ih0,ih1⟩:=Z12.mono_l k;unfold Z12.f
 repeat' (with_reducible first|apply ih0|exact lR _|refine lI ?_ ?_)
set_option maxHeartbeats 60000000 in
set_option maxRecDepth 100000 in
theorem Z12.calls (k:Nat) (A0:Option Addr) (c0:Nat) (l0:List Int) (a1 r1 r2:Int) (r3:Bool) (w:World) (hr0:Kd.C (Kd.int .u8) w A0 l0.length l0) (hc0:l0.length≤c0) (h:Z12.f k l0 a1=some (r1,r2,r3)) :
  Calls Tryd.prog 38 #[.slice A0 l0.length c0,a1] w fun e w'=>e=.returned (.tuple #[r1,r2,r3])∧Drawn0 w w':=by
 have aQ:=aM hr0;have bW:=aM hc0;clear hr0 hc0;have H:(if a1<0 then (some (0,0,false)) else (Z12.l0 k l0 a1 0 0))=some (r1,r2,r3):=h;clear h
 by_cases c3:a1<0
 case pos =>
  rw [if_pos c3] at H
  have bD:=decide_eq_true c3;clear c3;simp only [Option.some.injEq,Prod.mk.injEq] at H;obtain ⟨rfl,rfl,rfl⟩:=H;go_enter Tryd.func38,Tryd.ntmps38
  go_wp2
  go_ret3
  exact ⟨by rfl,by repeat (exact Drawn0.refl _)⟩
 rw [if_neg c3] at H
 have bD:=decide_eq_false c3;clear c3;have H':=aM H;clear H;go_enter Tryd.func38,Tryd.ntmps38
 go_wp2
 go_loopg [7,8] k (fun kq v7 v8 w'=>∃ (aE:Int) (aA:Int),v7=.int .i64 aE∧v8=.int .i64 aA∧Aside0 (Z12.l0 kq l0 a1 aE aA=some (r1,r2,r3))∧Aside0 (kq≤k)∧Drawn0 w w')
 case atStart=>exact ⟨(0),(0),xE,xE,H',⟨Nat.le_refl _⟩,by repeat (exact Drawn0.refl _)⟩
 case round =>
  clear H'
  repeat clear bD
  obtain ⟨aE,aA,rfl,rfl,HA,bG,⟨m1,rfl⟩⟩:=hrel;cases gk with
  | zero=>exact absurd HA.out (by simp [Z12.l0])
  | succ k1 =>
   have H:=HA.out;clear HA;simp only [Z12.l0] at H;have bI:=aM H;clear H;go_upto_region 5 with (fail)
   go_cut [21] (fun bP wc=>∃ (kq:Nat) (aK:Bool),bP=.bool aK∧Aside0 (Z12.j1 kq l0 a1 aE aA aK=some (r1,r2,r3))∧Aside0 (kq≤k1)∧Drawn0 w wc)
   case first =>
    have H:=bI.out;clear bI
    by_cases c5:aA<5
    case pos =>
     rw [if_pos c5] at H
     have aJ:=decide_eq_true c5;clear c5
     (skip)
     have H':=aM H;clear H;go_wp2
     go_meet
     case rel=>exact ⟨_,(decide (a1<(wrap64 ((l0.length:Int) - aA)))),xE,H',⟨by have:=bG.out;omega⟩,by repeat (first|exact Drawn0.refl _|apply Drawn0.step)⟩
    rw [if_neg c5] at H
    have aJ:=decide_eq_false c5;clear c5
    (skip)
    have H':=aM H;clear H;go_wp2
    go_meet
    case rel=>exact ⟨_,(false),xE,H',⟨by have:=bG.out;omega⟩,by repeat (first|exact Drawn0.refl _|apply Drawn0.step)⟩
   case rest =>
    clear bI
    repeat first|clear p2|clear c3|clear bD|clear c5|clear aJ|clear p2
    obtain ⟨kq,aK,rfl,HA,HJ3,⟨mc3,rfl⟩⟩:=hcut;cases kq with
    | zero=>exact absurd HA.out (by simp [Z12.j1])
    | succ bH =>
     have H:=HA.out;clear HA;simp only [Z12.j1] at H
     by_cases c6:aK=true
     case neg =>
      replace c6:=Bool.eq_false_iff.mpr c6;subst c6;replace H:=hF H;simp only [Option.some.injEq,Prod.mk.injEq] at H;obtain ⟨rfl,rfl,rfl⟩:=H;go_wp2
      go_ret3
      exact ⟨by rfl,by repeat (first|exact Drawn0.refl _|apply Drawn0.step)⟩
     subst c6;replace H:=hP H rfl;obtain ⟨ji7,hji7⟩:∃ j_:Int,(wrap64 (a1+aA))=j_:=⟨_,rfl⟩;replace H:(if 0≤(ji7) then (if (ji7)<(l0.length:Int) then (if 0≤(IntKind.u64.wrap (wrap64 (7*aA))) then (if (wrap64 (rd l0 (ji7))) ≥ 128 then (Z12.l0 bH l0 a1 (Go.bits .or .i64 aE (shl .i64 (Go.bits .and .i64 (wrap64 (rd l0 (ji7))) 127) (IntKind.u64.wrap (wrap64 (7*aA))))) (wS aA)) else (if (wrap64 (rd l0 (ji7)))=0 then (if aA > 0 then (some (0,0,false)) else (if (Go.bits .or .i64 aE (shl .i64 (Go.bits .and .i64 (wrap64 (rd l0 (ji7))) 127) (IntKind.u64.wrap (wrap64 (7*aA))))) > 2147483647 then (some (0,0,false)) else (some (Go.bits .or .i64 aE (shl .i64 (Go.bits .and .i64 (wrap64 (rd l0 (ji7))) 127) (IntKind.u64.wrap (wrap64 (7*aA)))),wS (ji7),true)))) else (if (Go.bits .or .i64 aE (shl .i64 (Go.bits .and .i64 (wrap64 (rd l0 (ji7))) 127) (IntKind.u64.wrap (wrap64 (7*aA))))) > 2147483647 then (some (0,0,false)) else (some (Go.bits .or .i64 aE (shl .i64 (Go.bits .and .i64 (wrap64 (rd l0 (ji7))) 127) (IntKind.u64.wrap (wrap64 (7*aA)))),wS (ji7),true))))) else (none)) else (none)) else (none))=some (r1,r2,r3):=by (rw [hji7] at H;exact H)
     have hji7w:(IntKind.i64.wrap (a1+aA))=ji7:=(i64_w _).trans hji7;obtain ⟨bU,H⟩:=gI H;obtain ⟨bV,H⟩:=gI H;obtain ⟨ji10,hji10⟩:∃ j_:Int,(IntKind.u64.wrap (wrap64 (7*aA)))=j_:=⟨_,rfl⟩;replace H:(if 0≤(ji10) then (if (wrap64 (rd l0 (ji7))) ≥ 128 then (Z12.l0 bH l0 a1 (Go.bits .or .i64 aE (shl .i64 (Go.bits .and .i64 (wrap64 (rd l0 (ji7))) 127) (ji10))) (wS aA)) else (if (wrap64 (rd l0 (ji7)))=0 then (if aA > 0 then (some (0,0,false)) else (if (Go.bits .or .i64 aE (shl .i64 (Go.bits .and .i64 (wrap64 (rd l0 (ji7))) 127) (ji10))) > 2147483647 then (some (0,0,false)) else (some (Go.bits .or .i64 aE (shl .i64 (Go.bits .and .i64 (wrap64 (rd l0 (ji7))) 127) (ji10)),wS (ji7),true)))) else (if (Go.bits .or .i64 aE (shl .i64 (Go.bits .and .i64 (wrap64 (rd l0 (ji7))) 127) (ji10))) > 2147483647 then (some (0,0,false)) else (some (Go.bits .or .i64 aE (shl .i64 (Go.bits .and .i64 (wrap64 (rd l0 (ji7))) 127) (ji10)),wS (ji7),true))))) else (none))=some (r1,r2,r3):=by (rw [hji10] at H;exact H)
     by_cases bA:0≤(ji10)
     case neg =>
      rw [if_neg bA] at H
      exact absurd H (by simp)
     rw [if_pos bA] at H
     have bQ:=eq_true bA;have bT:decide (0≤(ji10))=true:=decide_eq_true bA;clear bA;obtain ⟨ji12,hji12⟩:∃ j_:Int,(shl .i64 (Go.bits .and .i64 (wrap64 (rd l0 (ji7))) 127) (ji10))=j_:=⟨_,rfl⟩;replace H:(if (wrap64 (rd l0 (ji7))) ≥ 128 then (Z12.l0 bH l0 a1 (Go.bits .or .i64 aE (ji12)) (wS aA)) else (if (wrap64 (rd l0 (ji7)))=0 then (if aA > 0 then (some (0,0,false)) else (if (Go.bits .or .i64 aE (ji12)) > 2147483647 then (some (0,0,false)) else (some (Go.bits .or .i64 aE (ji12),wS (ji7),true)))) else (if (Go.bits .or .i64 aE (ji12)) > 2147483647 then (some (0,0,false)) else (some (Go.bits .or .i64 aE (ji12),wS (ji7),true)))))=some (r1,r2,r3):=by (rw [hji12] at H;exact H)
     have hji12_:(IntKind.i64.wrap ((Go.bits .and .i64 (wrap64 (rd l0 (ji7))) 127)*2 ^ min (ji10).toNat 64))=ji12:=hji12;have hji12z:(ji10)≤64→(IntKind.i64.wrap ((Go.bits .and .i64 (wrap64 (rd l0 (ji7))) 127)*2 ^ (ji10).toNat))=ji12:=shl_small hji12;have hji12y:(wrap64 ((Go.bits .and .i64 (wrap64 (rd l0 (ji7))) 127)*2 ^ min (ji10).toNat 64))=ji12:=(i64_w _).symm.trans hji12_;have hji12x:(ji10)≤64→(wrap64 ((Go.bits .and .i64 (wrap64 (rd l0 (ji7))) 127)*2 ^ (ji10).toNat))=ji12:=fun h_=>(i64_w _).symm.trans (hji12z h_)
     by_cases aT:(wrap64 (rd l0 (ji7))) ≥ 128
     case pos =>
      rw [if_pos aT] at H
      have bJ:=decide_eq_true aT;clear aT;have H':=aM H;clear H;have aC:0≤((ji7):Int):=dT;have aD:(ji7)<(l0.length:Int):=dT;obtain ⟨aI,aG,aH⟩:=Kd.at_int aQ.out (ji7) aC aD;cases aG
      replace aC:=eq_true aC;replace aD:=eq_true aD;go_wp2
      go_roundg bH
      case measure=>have:=bG.out;have:=HJ3.out;omega
      case rel=>exact ⟨(Go.bits .or .i64 aE (ji12)),(wS aA),(by rfl),xE,H',⟨by have:=bG.out;have:=HJ3.out;omega⟩,by repeat (first|exact Drawn0.refl _|apply Drawn0.step)⟩
     rw [if_neg aT] at H
     have bJ:=decide_eq_false aT;clear aT
     by_cases aN:(wrap64 (rd l0 (ji7)))=0
     case neg =>
      rw [if_neg aN] at H
      have bK:((wrap64 (rd l0 (ji7))) == 0)=false:=beq_eq_false_iff_ne.mpr aN;have bL:((wrap64 (rd l0 (ji7))) != 0)=true:=bne_iff_ne.mpr aN
      by_cases aV:(Go.bits .or .i64 aE (ji12)) > 2147483647
      case pos =>
       rw [if_pos aV] at H
       have bM:=decide_eq_true aV;clear aV;simp only [Option.some.injEq,Prod.mk.injEq] at H;obtain ⟨rfl,rfl,rfl⟩:=H;have aC:0≤((ji7):Int):=dT;have aD:(ji7)<(l0.length:Int):=dT;obtain ⟨aI,aG,aH⟩:=Kd.at_int aQ.out (ji7) aC aD;cases aG
       replace aC:=eq_true aC;replace aD:=eq_true aD;go_wp2
       go_ret3
       exact ⟨by rfl,by repeat (first|exact Drawn0.refl _|apply Drawn0.step)⟩
      rw [if_neg aV] at H
      have bM:=decide_eq_false aV;clear aV;simp only [Option.some.injEq,Prod.mk.injEq] at H;obtain ⟨rfl,rfl,rfl⟩:=H;have aC:0≤((ji7):Int):=dT;have aD:(ji7)<(l0.length:Int):=dT;obtain ⟨aI,aG,aH⟩:=Kd.at_int aQ.out (ji7) aC aD;cases aG
      replace aC:=eq_true aC;replace aD:=eq_true aD;go_wp2
      go_ret3
      exact ⟨by rfl,by repeat (first|exact Drawn0.refl _|apply Drawn0.step)⟩
     rw [if_pos aN] at H
     have bK:((wrap64 (rd l0 (ji7))) == 0)=true:=beq_iff_eq.mpr aN;have bL:((wrap64 (rd l0 (ji7))) != 0)=false:=bne_eq_false_iff_eq.mpr aN;clear aN
     by_cases aW:aA > 0
     case pos =>
      rw [if_pos aW] at H
      have bN:=decide_eq_true aW;clear aW;simp only [Option.some.injEq,Prod.mk.injEq] at H;obtain ⟨rfl,rfl,rfl⟩:=H;have aC:0≤((ji7):Int):=dT;have aD:(ji7)<(l0.length:Int):=dT;obtain ⟨aI,aG,aH⟩:=Kd.at_int aQ.out (ji7) aC aD;cases aG
      replace aC:=eq_true aC;replace aD:=eq_true aD;go_wp2
      go_ret3
      exact ⟨by rfl,by repeat (first|exact Drawn0.refl _|apply Drawn0.step)⟩
     rw [if_neg aW] at H
     have bN:=decide_eq_false aW;clear aW
     by_cases aX:(Go.bits .or .i64 aE (ji12)) > 2147483647
     case pos =>
      rw [if_pos aX] at H
      have bO:=decide_eq_true aX;clear aX;simp only [Option.some.injEq,Prod.mk.injEq] at H;obtain ⟨rfl,rfl,rfl⟩:=H;have aC:0≤((ji7):Int):=dT;have aD:(ji7)<(l0.length:Int):=dT;obtain ⟨aI,aG,aH⟩:=Kd.at_int aQ.out (ji7) aC aD;cases aG
      replace aC:=eq_true aC;replace aD:=eq_true aD;go_wp2
      go_ret3
      exact ⟨by rfl,by repeat (first|exact Drawn0.refl _|apply Drawn0.step)⟩
     rw [if_neg aX] at H
     have bO:=decide_eq_false aX;clear aX;simp only [Option.some.injEq,Prod.mk.injEq] at H;obtain ⟨rfl,rfl,rfl⟩:=H;have aC:0≤((ji7):Int):=dT;have aD:(ji7)<(l0.length:Int):=dT;obtain ⟨aI,aG,aH⟩:=Kd.at_int aQ.out (ji7) aC aD;cases aG
     replace aC:=eq_true aC;replace aD:=eq_true aD;go_wp2
     go_ret3
     exact ⟨by rfl,by repeat (first|exact Drawn0.refl _|apply Drawn0.step)⟩

/-- A state of type 68 at block g of W; what its slices lead to came in by w0. -/
def IsS68 (w0 W:World) (g:Nat) (f0:List Int) (f1:Int) (f2:Bool):Prop:=∃ A0 c0,W.heap[g]?=some (.cells #[.slice A0 f0.length c0,f1,f2] 68 (0,0))∧w0.heap.size≤g∧(Kd.C (Kd.int .u8) w0 A0 f0.length f0∧f0.length≤c0)
theorem IsS68.grown {w0 W:World} {g:Nat} {f0:List Int} {f1:Int} {f2:Bool} {W1:World} {row:Option Nat} (h:IsS68 w0 W g f0 f1 f2) (hw:W.grownBy W1 row) (hne:some g≠row):IsS68 w0 W1 g f0 f1 f2:=by
 obtain ⟨A0,c0,hb,hg,hr0⟩:=h;exact ⟨A0,c0,blk_grown hb hw hne,hg,hr0⟩
theorem IsS68.own_neN {w0 W:World} {g:Nat} {f0:List Int} {f1:Int} {f2:Bool} {α:Type} {d:Kd α} {e:Nat} {base:Nat} {ok:Nat→Prop} {v:Value} {xs:List α} (h:IsS68 w0 W g f0 f1 f2) (ho:Kd.N d e W base ok v xs) (ht:e≠68):some g≠v.ownBlock:=by
 obtain ⟨A0,c0,hb,hg,hr0⟩:=h;exact Kd.N_ne ho hb ht
theorem IsS68.fresh {w0 W:World} {g:Nat} {f0:List Int} {f1:Int} {f2:Bool} (h:IsS68 w0 W g f0 f1 f2):∀ k,W.heap.size≤k→k≠g:=by
 obtain ⟨A0,c0,hb,hg,hr0⟩:=h;exact Kd.freshB hb
theorem IsS68.kept {w0 W:World} {g:Nat} {f0:List Int} {f1:Int} {f2:Bool} {W1:World} {S:Nat→Prop} (h:IsS68 w0 W g f0 f1 f2) (hk:Kept W W1 S) (hne:¬ S g):IsS68 w0 W1 g f0 f1 f2:=by
 obtain ⟨A0,c0,hb,hg,hr0⟩:=h;exact ⟨A0,c0,blk_kept hb hk hne,hg,hr0⟩
theorem IsS68.below {w0 W:World} {g:Nat} {f0:List Int} {f1:Int} {f2:Bool} {W1:World} (h:IsS68 w0 W g f0 f1 f2) (hw:Below W.heap.size W W1):IsS68 w0 W1 g f0 f1 f2:=h.grown (grown_of_below hw none) (by simp)
theorem IsS68.alloc {w0 W:World} {g:Nat} {f0:List Int} {f1:Int} {f2:Bool} (h:IsS68 w0 W g f0 f1 f2) (o:Obj):IsS68 w0 (W.alloc o) g f0 f1 f2:=h.below (below_alloc (Below.refl _ _) o)
theorem IsS68.drewN {w0 W:World} {g:Nat} {f0:List Int} {f1:Int} {f2:Bool} (h:IsS68 w0 W g f0 f1 f2) (m:Nat):IsS68 w0 (W.drewN m) g f0 f1 f2:=h
theorem IsS68.drew {w0 W:World} {g:Nat} {f0:List Int} {f1:Int} {f2:Bool} (h:IsS68 w0 W g f0 f1 f2):IsS68 w0 W.drew g f0 f1 f2:=h
theorem IsS68.at_ {w0 W:World} {g:Nat} {f0:List Int} {f1:Int} {f2:Bool} {w':World} {m:Nat} (hq:W.drewN m=w') (h:IsS68 w0 W g f0 f1 f2):IsS68 w0 w' g f0 f1 f2:=by subst hq;exact IsS68.drewN h m
theorem IsS68.apart {w0 W:World} {g:Nat} {f0:List Int} {f1:Int} {f2:Bool} {α:Type} {d:Kd α} {e:Nat} {base:Nat} {ok:Nat→Prop} {v:Value} {xs:List α} (h:IsS68 w0 W g f0 f1 f2) (ho:d.R e W base ok v xs) (ht:∀ q,q∈e :: d.E→q≠68):d.R e W base (fun k=>ok k∧k≠g) v xs:=by
 obtain ⟨A0,c0,hb,hg,hr0⟩:=h;exact Kd.R_types ho hb ht
theorem IsS68.own_ne {w0 W:World} {g:Nat} {f0:List Int} {f1:Int} {f2:Bool} {α:Type} {d:Kd α} {e:Nat} {base:Nat} {ok:Nat→Prop} {v:Value} {xs:List α} (h:IsS68 w0 W g f0 f1 f2) (ho:d.R e W base ok v xs) (ht:e≠68):some g≠v.ownBlock:=by
 obtain ⟨A0,c0,hb,hg,hr0⟩:=h;exact Kd.R_ne ho hb ht
theorem IsS68.apartQ {w0 W:World} {g:Nat} {f0:List Int} {f1:Int} {f2:Bool} {α:Type} {d:Kd α} {e:Nat} {base:Nat} {ok:Nat→Prop} {v:Value} {xs:List α} (h:IsS68 w0 W g f0 f1 f2) (ho:d.Q e W base ok v xs) (ht:∀ q,q∈e :: d.E→q≠68):d.Q e W base (fun k=>ok k∧k≠g) v xs:=by
 obtain ⟨A0,c0,hb,hg,hr0⟩:=h;exact Kd.Q_types ho hb ht
theorem IsS68.own_neQ {w0 W:World} {g:Nat} {f0:List Int} {f1:Int} {f2:Bool} {α:Type} {d:Kd α} {e:Nat} {base:Nat} {ok:Nat→Prop} {v:Value} {xs:List α} (h:IsS68 w0 W g f0 f1 f2) (ho:d.Q e W base ok v xs) (ht:e≠68):some g≠v.ownBlock:=by
 obtain ⟨A0,c0,hb,hg,hr0⟩:=h;exact Kd.Q_ne ho hb ht
theorem IsS68.apartS {w0 W:World} {g:Nat} {f0:List Int} {f1:Int} {f2:Bool} {α:Type} {d:Kd α} {e:Nat} {base:Nat} {ok:Nat→Prop} {v:Value} {xs:List α} (h:IsS68 w0 W g f0 f1 f2) (ho:d.S e W base ok v xs) (ht:∀ q,q∈e :: d.E→q≠68):d.S e W base (fun k=>ok k∧k≠g) v xs:=by
 obtain ⟨A0,c0,hb,hg,hr0⟩:=h;exact Kd.S_types ho hb ht
theorem IsS68.own_neS {w0 W:World} {g:Nat} {f0:List Int} {f1:Int} {f2:Bool} {α:Type} {d:Kd α} {e:Nat} {base:Nat} {ok:Nat→Prop} {v:Value} {xs:List α} (h:IsS68 w0 W g f0 f1 f2) (ho:d.S e W base ok v xs) (ht:e≠68):some g≠v.ownBlock:=by
 obtain ⟨A0,c0,hb,hg,hr0⟩:=h;exact Kd.S_ne ho hb ht
theorem IsS68.lt {w0 W:World} {g:Nat} {f0:List Int} {f1:Int} {f2:Bool} (h:IsS68 w0 W g f0 f1 f2):g<W.heap.size:=by
 obtain ⟨A0,c0,hb,hg,hr0⟩:=h;exact blk_lt hb
theorem IsS68.ge {w0 W:World} {g:Nat} {f0:List Int} {f1:Int} {f2:Bool} (h:IsS68 w0 W g f0 f1 f2):w0.heap.size≤g:=by
 obtain ⟨A0,c0,hb,hg,hr0⟩:=h;exact hg
theorem IsS68.ne_blk {w0 W:World} {g:Nat} {f0:List Int} {f1:Int} {f2:Bool} {a:Nat} {cs:Array Value} {t:TypeId} {fr:Nat × Nat} (h:IsS68 w0 W g f0 f1 f2) (hb2:W.heap[a]?=some (.cells cs t fr)) (ht:t≠68):g≠a:=by
 obtain ⟨A0,c0,hb,hg,hr0⟩:=h;rintro rfl;rw [hb] at hb2
 injection hb2 with hb2
 injection hb2 with _ ht2
 exact ht ht2.symm
theorem IsS68.far {w0 W:World} {g:Nat} {f0:List Int} {f1:Int} {f2:Bool} {p:Addr} (h:IsS68 w0 W g f0 f1 f2) (hne:g≠p.block) (u:Value):IsS68 w0 (W.setCell p u) g f0 f1 f2:=by
 obtain ⟨A0,c0,hb,hg,hr0⟩:=h;exact ⟨A0,c0,blk_far hb hne u,hg,hr0⟩
theorem cellS68_0 {W:World} {g:Nat} {A0:Option Addr} {c0:Nat} {f0:List Int} {f1:Int} {f2:Bool} (h:W.heap[g]?=some (.cells #[.slice A0 f0.length c0,f1,f2] 68 (0,0))):W.cell? ⟨g,0,none⟩=some (.slice A0 f0.length c0):=(bC h 0).trans rfl
theorem IsS68.put_0 {w0 W:World} {g:Nat} {f0:List Int} {f1:Int} {f2:Bool} {A_:Option Addr} {c_:Nat} {x_:List Int} (h:IsS68 w0 W g f0 f1 f2) (hx_:Kd.C (Kd.int .u8) w0 A_ x_.length x_∧x_.length≤c_):IsS68 w0 (W.setCell ⟨g,0,none⟩ (.slice A_ x_.length c_)) g x_ f1 f2:=by
 obtain ⟨A0,c0,hb,hg,hr0⟩:=h;exact ⟨A_,c_,by simpa using blk_set hb 0 (.slice A_ x_.length c_),hg,hx_⟩
theorem cellS68_1 {W:World} {g:Nat} {A0:Option Addr} {c0:Nat} {f0:List Int} {f1:Int} {f2:Bool} (h:W.heap[g]?=some (.cells #[.slice A0 f0.length c0,f1,f2] 68 (0,0))):W.cell? ⟨g,1,none⟩=some f1:=(bC h 1).trans rfl
theorem IsS68.set_1 {w0 W:World} {g:Nat} {f0:List Int} {f1:Int} {f2:Bool} (h:IsS68 w0 W g f0 f1 f2) (x:Int):IsS68 w0 (W.setCell ⟨g,1,none⟩ (.int .i64 x)) g f0 x f2:=by
 obtain ⟨A0,c0,hb,hg,hr0⟩:=h;exact ⟨A0,c0,by simpa using blk_set hb 1 (.int .i64 x),hg,hr0⟩
theorem cellS68_2 {W:World} {g:Nat} {A0:Option Addr} {c0:Nat} {f0:List Int} {f1:Int} {f2:Bool} (h:W.heap[g]?=some (.cells #[.slice A0 f0.length c0,f1,f2] 68 (0,0))):W.cell? ⟨g,2,none⟩=some f2:=(bC h 2).trans rfl
theorem IsS68.set_2 {w0 W:World} {g:Nat} {f0:List Int} {f1:Int} {f2:Bool} (h:IsS68 w0 W g f0 f1 f2) (x:Bool):IsS68 w0 (W.setCell ⟨g,2,none⟩ (.bool x)) g f0 f1 x:=by
 obtain ⟨A0,c0,hb,hg,hr0⟩:=h;exact ⟨A0,c0,by simpa using blk_set hb 2 (.bool x),hg,hr0⟩
theorem IsS68.new (w0 W:World) (A0:Option Addr) (c0:Nat) (f0:List Int) (f1:Int) (f2:Bool) (hB:Below w0.heap.size w0 W) (hr0:Kd.C (Kd.int .u8) w0 A0 f0.length f0∧f0.length≤c0):IsS68 w0 (W.alloc (.cells #[.slice A0 f0.length c0,f1,f2] 68)) W.heap.size f0 f1 f2:=⟨A0,c0,by simpa using heap_alloc_new W _,hB.size,hr0⟩

theorem IsS68.mv {w0 W W':World} {g:Nat} {f0 f0':List Int} {f1 f1':Int} {f2 f2':Bool} (h:IsS68 w0 W g f0 f1 f2) (hs:IsS68 w0 W g f0 f1 f2→IsS68 w0 W' g f0' f1' f2':=by intro h;repeat (first|(with_reducible first|exact h|apply IsS68.alloc|apply IsS68.drewN|apply IsS68.drew|apply IsS68.set_1|apply IsS68.set_2|refine IsS68.far ?_ (Aside0.out (by assumption)) _)|exact h)):IsS68 w0 W' g f0' f1' f2':=hs h
theorem IsS68.bl {B:Nat} {w0 W W':World} (h:Below B w0 W) (hs:Below B w0 W→Below B w0 W':=by intro h;repeat (first|(with_reducible first|exact h|apply below_alloc|apply pw_below_drewN|apply below_drew1|refine below_set ?_ (Aside0.out (by assumption))|refine below_set ?_ (IsS68.ge (Aside0.out (by assumption))))|exact h)):Below B w0 W':=hs h
def Z41.f (k:Nat) (aE:List Int) (aC:Int) (aD:Bool):Option (Int × Int × Bool):=(Z12.f k aE aC).bind fun aA=>(if aD=true then (some (0,aC,true)) else (if aA.2.2=true then (some (aA.1,aA.2.1,aD)) else (some (0,aC,true))))
theorem Z41.mono:∀ a0 a1 a2 k,LeO (Z41.f k a0 a1 a2) (Z41.f (k+1) a0 a1 a2):=by
 intro a0 a1 a2 k;unfold Z41.f
 repeat' (with_reducible first|apply Z12.mono|exact lR _|refine lB ?_ fun _=>?_)
set_option maxHeartbeats 60000000 in
set_option maxRecDepth 100000 in
theorem Z41.calls (k g:Nat) (aC:List Int) (aA:Int) (aG:Bool) (r1 r2:Int) (r3:Bool) (w0 w:World) (hI:IsS68 w0 w g aC aA aG) (hB:Below w0.heap.size w0 w) (h:Z41.f k aC aA aG=some (r1,r2,r3)) :
  Calls Tryd.prog 52 #[.pointer (some ⟨g,0,none⟩)] w fun e w'=>e=.returned (.int .i64 r1)∧IsS68 w0 w' g aC r2 r3∧Below w0.heap.size w0 w'∧KeepBut w w' g none:=by
 have aH:=aM hI;have HK:=aM (KeepBut.refl w g none);have HL:=aM hB.size;clear hI;have HW0:=aM hB.size;have HB:=aM hB;clear hB;have H:((Z12.f k aC aA).bind fun aI=>(if aG=true then (some (0,aA,true)) else (if aI.2.2=true then (some (aI.1,aI.2.1,aG)) else (some (0,aA,true)))))=some (r1,r2,r3):=h
 clear h;obtain ⟨⟨aD,aE,aJ⟩,aK,H⟩:=hB H
 try dsimp only at H
 have A2:=aM aK;clear aK
 by_cases c3:aG=true
 case pos =>
  subst c3;replace H:=hP H rfl;simp only [Option.some.injEq,Prod.mk.injEq] at H;obtain ⟨rfl,rfl,rfl⟩:=H;obtain ⟨ASz4_0,cSz4_0,HGz4,hgz4,HSz4_0⟩:=aH.out;have aN:=cellS68_0 HGz4;have aQ:=cellS68_1 HGz4;have aT:=cellS68_2 HGz4;have aV:=bF HGz4 1;have aW:=bF HGz4 2;clear HGz4 hgz4;go_enter Tryd.func52,Tryd.ntmps52
  go_wp2_with (first|(go_at_call 38;(with_reducible refine (Z12.calls k _ _ aC aA aD aE aJ _ ?side1 ?side2 A2.out).mono ?_);(case side1=>exact cM (cB HSz4_0.1 HB.out));(case side2=>exact HSz4_0.2);rintro e w' ⟨rfl,⟨nd,rfl⟩⟩;(try first|exact ⟨rfl,_,World.drewN_drewN _ _ _⟩|exact ⟨rfl,_,Eq.trans (World.drewN_drewN _ _ _) (congrArg (World.drewN _) (Nat.add_assoc _ _ _))⟩)))
  repeat (go_quiet ((go_at_call 38;(with_reducible refine (Z12.calls k _ _ aC aA aD aE aJ _ ?side1 ?side2 A2.out).mono ?_);(case side1=>exact cM (cB HSz4_0.1 HB.out));(case side2=>exact HSz4_0.2);rintro e w' ⟨rfl,⟨nd,rfl⟩⟩;(try exact ⟨rfl,_,World.drewN_drewN _ _ _⟩)));try go_wp2_with (first|(go_at_call 38;(with_reducible refine (Z12.calls k _ _ aC aA aD aE aJ _ ?side1 ?side2 A2.out).mono ?_);(case side1=>exact cM (cB HSz4_0.1 HB.out));(case side2=>exact HSz4_0.2);rintro e w' ⟨rfl,⟨nd,rfl⟩⟩;(try first|exact ⟨rfl,_,World.drewN_drewN _ _ _⟩|exact ⟨rfl,_,Eq.trans (World.drewN_drewN _ _ _) (congrArg (World.drewN _) (Nat.add_assoc _ _ _))⟩))))
  go_ret
  exact ⟨xW,IsS68.mv aH.out,IsS68.bl HB.out,km HK.out⟩
 replace c3:=Bool.eq_false_iff.mpr c3;subst c3;replace H:=hF H
 by_cases c5:aJ=true
 case pos =>
  subst c5;replace H:=hP H rfl;simp only [Option.some.injEq,Prod.mk.injEq] at H;obtain ⟨rfl,rfl,rfl⟩:=H;obtain ⟨ASz6_0,cSz6_0,HGz6,hgz6,HSz6_0⟩:=aH.out;have aX:=cellS68_0 HGz6;have bA:=cellS68_1 HGz6;have bD:=cellS68_2 HGz6;have bG:=bF HGz6 1;have bH:=bF HGz6 2;clear HGz6 hgz6;go_enter Tryd.func52,Tryd.ntmps52
  go_wp2_with (first|(go_at_call 38;(with_reducible refine (Z12.calls k _ _ aC aA aD aE true _ ?side1 ?side2 A2.out).mono ?_);(case side1=>exact cM (cB HSz6_0.1 HB.out));(case side2=>exact HSz6_0.2);rintro e w' ⟨rfl,⟨nd,rfl⟩⟩;(try first|exact ⟨rfl,_,World.drewN_drewN _ _ _⟩|exact ⟨rfl,_,Eq.trans (World.drewN_drewN _ _ _) (congrArg (World.drewN _) (Nat.add_assoc _ _ _))⟩)))
  repeat (go_quiet ((go_at_call 38;(with_reducible refine (Z12.calls k _ _ aC aA aD aE true _ ?side1 ?side2 A2.out).mono ?_);(case side1=>exact cM (cB HSz6_0.1 HB.out));(case side2=>exact HSz6_0.2);rintro e w' ⟨rfl,⟨nd,rfl⟩⟩;(try exact ⟨rfl,_,World.drewN_drewN _ _ _⟩)));try go_wp2_with (first|(go_at_call 38;(with_reducible refine (Z12.calls k _ _ aC aA aD aE true _ ?side1 ?side2 A2.out).mono ?_);(case side1=>exact cM (cB HSz6_0.1 HB.out));(case side2=>exact HSz6_0.2);rintro e w' ⟨rfl,⟨nd,rfl⟩⟩;(try first|exact ⟨rfl,_,World.drewN_drewN _ _ _⟩|exact ⟨rfl,_,Eq.trans (World.drewN_drewN _ _ _) (congrArg (World.drewN _) (Nat.add_assoc _ _ _))⟩))))
  go_ret
  exact ⟨xW,IsS68.mv aH.out,IsS68.bl HB.out,km HK.out⟩
 replace c5:=Bool.eq_false_iff.mpr c5;subst c5;replace H:=hF H;simp only [Option.some.injEq,Prod.mk.injEq] at H;obtain ⟨rfl,rfl,rfl⟩:=H;obtain ⟨ASz7_0,cSz7_0,HGz7,hgz7,HSz7_0⟩:=aH.out;have bI:=cellS68_0 HGz7;have bJ:=cellS68_1 HGz7;have bK:=cellS68_2 HGz7;have bL:=bF HGz7 1;have bM:=bF HGz7 2;clear HGz7 hgz7;go_enter Tryd.func52,Tryd.ntmps52
 go_wp2_with (first|(go_at_call 38;(with_reducible refine (Z12.calls k _ _ aC aA aD aE false _ ?side1 ?side2 A2.out).mono ?_);(case side1=>exact cM (cB HSz7_0.1 HB.out));(case side2=>exact HSz7_0.2);rintro e w' ⟨rfl,⟨nd,rfl⟩⟩;(try first|exact ⟨rfl,_,World.drewN_drewN _ _ _⟩|exact ⟨rfl,_,Eq.trans (World.drewN_drewN _ _ _) (congrArg (World.drewN _) (Nat.add_assoc _ _ _))⟩)))
 repeat (go_quiet ((go_at_call 38;(with_reducible refine (Z12.calls k _ _ aC aA aD aE false _ ?side1 ?side2 A2.out).mono ?_);(case side1=>exact cM (cB HSz7_0.1 HB.out));(case side2=>exact HSz7_0.2);rintro e w' ⟨rfl,⟨nd,rfl⟩⟩;(try exact ⟨rfl,_,World.drewN_drewN _ _ _⟩)));try go_wp2_with (first|(go_at_call 38;(with_reducible refine (Z12.calls k _ _ aC aA aD aE false _ ?side1 ?side2 A2.out).mono ?_);(case side1=>exact cM (cB HSz7_0.1 HB.out));(case side2=>exact HSz7_0.2);rintro e w' ⟨rfl,⟨nd,rfl⟩⟩;(try first|exact ⟨rfl,_,World.drewN_drewN _ _ _⟩|exact ⟨rfl,_,Eq.trans (World.drewN_drewN _ _ _) (congrArg (World.drewN _) (Nat.add_assoc _ _ _))⟩))))
 go_ret
 exact ⟨xW,IsS68.mv aH.out,IsS68.bl HB.out,km HK.out⟩

def Z81.f (l0:List Int) (l1:List Int):Option (Bool):=some ((strOfNums l0).toList == (strOfNums l1).toList)
set_option maxHeartbeats 60000000 in
set_option maxRecDepth 100000 in
theorem Z81.calls (A0:Option Addr) (c0:Nat) (l0:List Int) (A1:Option Addr) (c1:Nat) (l1:List Int) (r:Bool) (w:World) (hr0:Kd.C (Kd.int .u8) w A0 l0.length l0) (hc0:l0.length≤c0) (hr1:Kd.C (Kd.int .u8) w A1 l1.length l1) (hc1:l1.length≤c1) (h:Z81.f l0 l1=some r) :
  Calls Tryd.prog 77 #[.slice A0 l0.length c0,.slice A1 l1.length c1] w fun e w'=>e=.returned (.bool r)∧Drawn0 w w':=by
 have aA:=aM hr0;have aD:=aM hc0;clear hr0 hc0;have aC:=aM hr1;have aE:=aM hc1;clear hr1 hc1;have H:(some ((strOfNums l0).toList == (strOfNums l1).toList))=some r:=h;clear h;obtain rfl:=Option.some.inj H;have hcv3:=Kd.C_string (P:=Tryd.prog) (A:=A0) (c:=c0) Tryd.underlying22 Tryd.underlying5 Tryd.underlying9 aA.out;have hcv4:=Kd.C_string (P:=Tryd.prog) (A:=A1) (c:=c1) Tryd.underlying22 Tryd.underlying5 Tryd.underlying9 aC.out;go_enter Tryd.func77,Tryd.ntmps77
 go_wp2
 go_ret
 exact ⟨by rfl,by repeat (exact Drawn0.refl _)⟩

def Z80.f (l0:List Int) (l1:List Int):Option (Bool):=if (l0.length:Int) ≥ (l1.length:Int) then (if 0≤(l1.length:Int) then (if (l1.length:Int)≤(l0.length:Int) then ((Z81.f (l0.take ((l1.length:Int):Int).toNat) l1).bind fun aA=>(some aA)) else (none)) else (none)) else (some false)
set_option maxHeartbeats 60000000 in
set_option maxRecDepth 100000 in
theorem Z80.calls (A0:Option Addr) (c0:Nat) (l0:List Int) (A1:Option Addr) (c1:Nat) (l1:List Int) (r:Bool) (w:World) (hr0:Kd.C (Kd.int .u8) w A0 l0.length l0) (hc0:l0.length≤c0) (hr1:Kd.C (Kd.int .u8) w A1 l1.length l1) (hc1:l1.length≤c1) (h:Z80.f l0 l1=some r) :
  Calls Tryd.prog 53 #[.slice A0 l0.length c0,.slice A1 l1.length c1] w fun e w'=>e=.returned (.bool r)∧Drawn0 w w':=by
 have aI:=aM hr0;have aJ:=aM hc0;clear hr0 hc0;have aK:=aM hr1;have aN:=aM hc1;clear hr1 hc1;have H:(if (l0.length:Int) ≥ (l1.length:Int) then (if 0≤(l1.length:Int) then (if (l1.length:Int)≤(l0.length:Int) then ((Z81.f (l0.take ((l1.length:Int):Int).toNat) l1).bind fun aA=>(some aA)) else (none)) else (none)) else (some false))=some r:=h
 clear h
 by_cases c3:(l0.length:Int) ≥ (l1.length:Int)
 case neg =>
  rw [if_neg c3] at H
  have aG:=decide_eq_false c3;have aH:decide (l1.length≤l0.length)=false:=decide_eq_false (fun h=>c3 (Int.ofNat_le.mpr h))
  clear c3;obtain rfl:=Option.some.inj H;go_enter Tryd.func53,Tryd.ntmps53
  go_wp2
  go_ret
  exact ⟨by rfl,by repeat (exact Drawn0.refl _)⟩
 rw [if_pos c3] at H
 have aG:=decide_eq_true c3;have aH:decide (l1.length≤l0.length)=true:=decide_eq_true (Int.ofNat_le.mp c3);clear c3
 by_cases c4:0≤(l1.length:Int)
 case neg =>
  rw [if_neg c4] at H
  exact absurd H (by simp)
 rw [if_pos c4] at H
 have aQ:=eq_true c4;have aT:decide (0≤(l1.length:Int))=true:=decide_eq_true c4;clear c4
 by_cases c5:(l1.length:Int)≤(l0.length:Int)
 case neg =>
  rw [if_neg c5] at H
  exact absurd H (by simp)
 rw [if_pos c5] at H
 have aV:=eq_true c5;have aW:decide ((l1.length:Int)≤(l0.length:Int))=true:=decide_eq_true c5;clear c5;obtain ⟨aA,aE,H⟩:=hB H;have A6:=aM aE;clear aE;obtain rfl:=Option.some.inj H;obtain ⟨i07,hi07,_,hsz7,_⟩:=info_parts info5;obtain ⟨hcut7,hA7,hC7⟩:=print_take_of (P:=Tryd.prog) (Value.int .u8) 0 22 5 .i64 Tryd.underlying22 hi07 hsz7 A0 c0 l0 (l1.length:Int) (dT) (dT) aJ.out;have aC:=aM (Kd.C_of_reads (h1:=fun _=>rfl) (hA7 _ (Kd.reads_of_C aI.out)))
 have aD:=aM hC7;clear hA7 hC7 hi07 hsz7;obtain ⟨tk7,hTK7⟩:∃ t_,t_=(l0.take ((l1.length:Int):Int).toNat):=⟨_,rfl⟩;rw [← hTK7] at hcut7
 rw [← hTK7] at aC
 rw [← hTK7] at aD
 try rw [← hTK7] at A6
 clear hTK7;go_enter Tryd.func53,Tryd.ntmps53
 go_wp2_with ((go_at_call 77;(with_reducible refine (Z81.calls _ _ tk7 _ _ l1 aA _ ?side1 ?side2 ?side3 ?side4 A6.out).mono ?_);(case side1=>exact cM aC.out);(case side2=>exact aD.out);(case side3=>exact cM aK.out);(case side4=>exact aN.out);rintro e w' ⟨rfl,⟨nd,rfl⟩⟩))
 go_ret
 exact ⟨by rfl,by repeat (first|exact Drawn0.refl _|apply Drawn0.step)⟩

end Go.Proofs.YtljbdchibfjbdaaDoor.PFnIns
