/- A part of the proof of laws.FnCards. No condition beyond what its theorems say. -/
import Derived.Test.YtjodolkdelffaaaVFnCardsPx0
namespace Go.Proofs.Ytjodolkdelffaaa.PFnCards
open Go.RowKit Go.Proofs.YtjodolkdelffaaaW.PrintWords Go.Proofs.YtjodolkdelffaaaW.PrintLast Go.Proofs.YtjodolkdelffaaaW.PrintMore
set_option linter.unusedVariables false
set_option linter.unusedSimpArgs false

def Z12.l0:Nat→Int→List Bool→List (S42)→List (S72)→List Bool→List (S42)→List (S72)→Option (List Bool × (List (S42)) × (List (S72)))
 | 0,_,_,_,_,_,_,_=>none
 | k+1,x4,aG,aA,aH,aD,aC,aE=>if x4<(aA.length:Int) then (if 0≤x4 then ((some (([]:List Int):List Int)).bind fun aI=>(if aI.length+((rd_T42 aA x4).f1).length<17592186044416 then (if aC.length<4398046511104 then (Z12.l0 k (wrap64 (x4+1)) aG aA aH aD (aC++[(⟨(rd_T42 aA x4).f0,(aI++((rd_T42 aA x4).f1))⟩:S42)]) aE) else (none)) else (none))) else (none)) else (some (aD,aC,aE))
def Z12.f (k:Nat) (aA:List Bool) (aG:List (S42)) (aC:List (S72)):Option (List Bool × (List (S42)) × (List (S72))):=(some (([]:List Bool):List Bool)).bind fun aD=>(if aD.length+aA.length<140737488355328 then ((some (([]:List (S72)):List (S72))).bind fun aE=>(if aE.length+aC.length<4398046511104 then (Z12.l0 k 0 aA aG aC (aD++aA) ([]:List (S42)) (aE++aC)) else (none))) else (none))
theorem Z12.mono_l:∀ k,(∀ y0 y1 y2 y3 y4 y5 y6,LeO (Z12.l0 k y0 y1 y2 y3 y4 y5 y6) (Z12.l0 (k+1) y0 y1 y2 y3 y4 y5 y6))
 | 0=>fun _ _ _ _ _ _ _ r h=>by simp [Z12.l0] at h
 | k+1=>by
  have ih0:=Z12.mono_l k
  ·intro y0 y1 y2 y3 y4 y5 y6
   unfold Z12.l0
   repeat' (with_reducible first|apply ih0|exact lR _|refine lI ?_ ?_|refine lB ?_ fun _=>?_)
theorem Z12.mono:∀ a0 a1 a2 k,LeO (Z12.f k a0 a1 a2) (Z12.f (k+1) a0 a1 a2):=by
 intro a0 a1 a2 k;have ih0:=Z12.mono_l k;unfold Z12.f
 repeat' (with_reducible first|apply ih0|exact lR _|refine lI ?_ ?_|refine lB ?_ fun _=>?_)
def Z12.T1:Bool × List (List Nat × List Nat):=(true,[([],[]),([],[]),([1],[1]),([0,2],[0,2]),([],[]),([],[]),([5],[5]),([4,6,3],[4,6]),([3,7],[3,7]),([],[]),([9,8,7,0,1,2,3,4,5,6,7,8,9],[8,9])])
def Z12.B1:List Nat:=[0,0,2,7,0,0,32,127,255,0,1023]
theorem Z12.tab1:rtab .any (opsOf Try.f30 1)=Z12.T1:=by kernel_rfl
theorem Z12.bits1:waitsOk Z12.T1.2 Z12.B1=true:=by kernel_rfl
def Z12.T5:Bool × List (List Nat × List Nat):=(true,[([],[]),([0],[0]),([],[]),([2],[2]),([],[]),([3,4],[3,4]),([5],[5]),([6],[6]),([],[]),([],[]),([9],[9]),([],[]),([10,11],[10,11]),([12],[12]),([13],[13]),([8,14],[8,14]),([7,15],[7,15]),([16],[16]),([1,17,15],[1,17]),([0,1,2,3,4,5,6,7,8,9,10,11,12,13,14,15,16,17,18],[]),([19,18,18,0,1,2,3,4,5,6,7,8,9,10,11,12,13,14,15,16,17,18],[18,19])])
def Z12.B5:List Nat:=[0,1,0,4,0,28,60,124,0,0,512,0,3584,7680,15872,32512,65532,131068,262143,524287,1048575]
theorem Z12.tab5:rtab .any (opsOf Try.f30 5)=Z12.T5:=by kernel_rfl
theorem Z12.bits5:waitsOk Z12.T5.2 Z12.B5=true:=by kernel_rfl
set_option maxHeartbeats 60000000 in
set_option maxRecDepth 100000 in
theorem Z12.calls (k:Nat) (aX:Option Addr) (bA:Nat) (aT:List Bool) (bI:Option Addr) (bD:Nat) (aH:List (S42)) (bG:Option Addr) (bH:Nat) (aV:List (S72)) (r1:List Bool) (r2:List (S42)) (r3:List (S72)) (w:World) (hr0_0:Kd.C Kd.bool w aX aT.length aT) (hc0_0:aT.length≤bA) (hr0_1:Kd.C k42 w bI aH.length aH) (hc0_1:aH.length≤bD) (hr0_2:Kd.C k72 w bG aV.length aV) (hc0_2:aV.length≤bH) (h:Z12.f k aT aH aV=some (r1,r2,r3)) :
  Calls Try.prog 30 #[.agg #[.slice aX aT.length bA,.slice bI aH.length bD,.slice bG aV.length bH]] w fun e w'=>∃ fG fH fI:Value,e=.returned (.agg #[fG,fH,fI])∧Kd.R Kd.bool 4 w' w.heap.size (fun _=>True) fG r1∧Kd.S k42 42 w' w.heap.size (fun _=>True) fH r2∧Kd.R k72 72 w' w.heap.size (fun _=>True) fI r3∧Below w.heap.size w w':=by
 have dM:=aM hr0_0;clear hr0_0 hc0_0;have eL:=aM hr0_1;clear hr0_1 hc0_1;have eM:=aM hr0_2;clear hr0_2 hc0_2;have HB:=aM (Below.refl w.heap.size w);have H:((some (([]:List Bool):List Bool)).bind fun cC=>(if cC.length+aT.length<140737488355328 then ((some (([]:List (S72)):List (S72))).bind fun bZ=>(if bZ.length+aV.length<4398046511104 then (Z12.l0 k 0 aT aH aV (cC++aT) ([]:List (S42)) (bZ++aV)) else (none))) else (none)))=some (r1,r2,r3):=h
 clear h;obtain ⟨cC,eN,H⟩:=hS H;have cR:=aM eN;clear eN
 by_cases c2:cC.length+aT.length<140737488355328
 case neg =>
  rw [if_neg c2] at H
  exact absurd H (by simp)
 rw [if_pos c2] at H
 have LMc2:=aM c2;clear c2;obtain ⟨bQ,dC⟩:∃ y_:List Bool,y_=(cC++aT):=⟨_,rfl⟩;replace H:((some (([]:List (S72)):List (S72))).bind fun bZ=>(if bZ.length+aV.length<4398046511104 then (Z12.l0 k 0 aT aH aV bQ ([]:List (S42)) (bZ++aV)) else (none)))=some (r1,r2,r3):=by (rw [dC];with_reducible exact H)
 have dN:=aM dC;clear dC;obtain ⟨bZ,eO,H⟩:=hS H;have cH:=aM eO;clear eO
 by_cases c3:bZ.length+aV.length<4398046511104
 case neg =>
  rw [if_neg c3] at H
  exact absurd H (by simp)
 rw [if_pos c3] at H
 have LMc3:=aM c3;clear c3;obtain ⟨cA,dD⟩:∃ y_:List (S72),y_=(bZ++aV):=⟨_,rfl⟩;replace H:(Z12.l0 k 0 aT aH aV bQ ([]:List (S42)) cA)=some (r1,r2,r3):=by (rw [dD];with_reducible exact H)
 have eP:=aM dD;clear dD;have H':=aM H;clear H;go_enter Try.func30,Try.ntmps30
 try go_wp2_with (first|((with_reducible refine gD (N:=1) rfl ?_);refine bE (N:=1) (cs:=#[.slice aX aT.length bA,.slice bI aH.length bD,.slice bG aV.length bH]) (t:=28) ?_;intro aC hg w4 hbox hb;have aA:=aM (hbox);replace HB:=rS HB hb;clear hb hbox hg)|((with_reducible refine gD (N:=2) rfl ?_);refine bE (N:=2) (cs:=#[.slice none 0 0,.slice none 0 0,.slice none 0 0]) (t:=28) ?_;intro aI hg w5 hbox hb;have aD:=aM (hbox);have gH:=gF hg HB;have dJ:=nM hg aA;have dK:=nH hg aA;replace aA:=rB aA hb;replace HB:=rS HB hb;clear hb hbox hg))
 replace aA:=aM (blk_drew aA.out);replace aD:=aM (blk_drew aD.out);replace HB:=aM (below_drew1 HB.out);refine start_ (n:=11) (S:=fun w'=>cS3 w' aC (.slice aX aT.length bA) (.slice bI aH.length bD) (.slice bG aV.length bH)) (ds:=[]) (dn 11 0) (by kernel_rfl) rfl rfl ⟨cI aA.out 0,cI aA.out 1,cI aA.out 2⟩ (fun hHeld=>?_);refine with_tabW Z12.tab1 Z12.bits1 (fun HT_ HW_=>?_)
 generalize w5.drew=w6 at aA aD HB hHeld ⊢
 refine pZ 1 6 (bv 11 2) HT_ ?_;refine pZ 5 10 (bv 11 34) HT_ ?_;refine aZ 2 7 (bv 11 38) HT_ HW_ hHeld ?_;refine aZ 6 11 (bv 11 102) HT_ HW_ hHeld ?_;refine join_ (σ:=Value × Value × Value × Value × Nat) 1 (bv 11 1023) (fun s_=>[(5,s_.1),(8,s_.2.1),(9,s_.2.2.1),(12,s_.2.2.2.1),(3,.pointer (some ⟨s_.2.2.2.2,0,none⟩)),(13,.agg #[s_.2.1,.slice none 0 0,s_.2.2.2.1])]) (fun s_ w'=>(w'.cell? ⟨aC,0,none⟩=some (.slice aX aT.length bA)∧w'.cell? ⟨aC,1,none⟩=some (.slice bI aH.length bD)∧w'.cell? ⟨aC,2,none⟩=some (.slice bG aV.length bH))∧(Kd.R Kd.bool 4 w' w.heap.size (fun _=>True) s_.2.1 bQ)∧(Kd.R k72 72 w' w.heap.size (fun _=>True) s_.2.2.2.1 cA)∧(w'.heap[aC]?=some (.cells #[.slice aX aT.length bA,.slice bI aH.length bD,.slice bG aV.length bH] 28 (0,0)))∧(w'.heap[aI]?=some (.cells #[.slice none 0 0,.slice none 0 0,.slice none 0 0] 28 (0,0)))∧(w'.heap[s_.2.2.2.2]?=some (.cells #[.slice none 0 0,.slice none 0 0,.slice none 0 0] 28 (0,0)))∧(w.heap.size≤s_.2.2.2.2)∧(w.heap.size≤s_.2.2.2.2)∧(aC≠s_.2.2.2.2)∧(s_.2.2.2.2≠aC)∧(aI≠s_.2.2.2.2)∧(s_.2.2.2.2≠aI)∧(Below w.heap.size w w')) ?_ ?_
 rotate_left
 ·intro hJ0_3_4_7_9
  refine join_ (σ:=Value × Value × Value × Value) 2 (bv 11 511) (fun s_=>[(5,s_.1),(8,s_.2.1),(9,s_.2.2.1),(12,s_.2.2.2),(13,.agg #[s_.2.1,.slice none 0 0,s_.2.2.2])]) (fun s_ w'=>(w'.cell? ⟨aC,0,none⟩=some (.slice aX aT.length bA)∧w'.cell? ⟨aC,1,none⟩=some (.slice bI aH.length bD)∧w'.cell? ⟨aC,2,none⟩=some (.slice bG aV.length bH))∧(Kd.R Kd.bool 4 w' w.heap.size (fun _=>True) s_.2.1 bQ)∧(Kd.R k72 72 w' w.heap.size (fun _=>True) s_.2.2.2 cA)∧(w'.heap[aC]?=some (.cells #[.slice aX aT.length bA,.slice bI aH.length bD,.slice bG aV.length bH] 28 (0,0)))∧(w'.heap[aI]?=some (.cells #[.slice none 0 0,.slice none 0 0,.slice none 0 0] 28 (0,0)))∧(Below w.heap.size w w')) ?_ ?_
  rotate_left
  ·intro hJ0_3_4_7
   refine join_ (σ:=Value × Value × Value × Nat) 3 (bv 11 639) (fun s_=>[(5,s_.1),(8,s_.2.1),(9,s_.2.2.1),(3,.pointer (some ⟨s_.2.2.2,0,none⟩))]) (fun s_ w'=>(w'.cell? ⟨aC,0,none⟩=some (.slice aX aT.length bA)∧w'.cell? ⟨aC,1,none⟩=some (.slice bI aH.length bD)∧w'.cell? ⟨aC,2,none⟩=some (.slice bG aV.length bH))∧(Kd.R Kd.bool 4 w' w.heap.size (fun _=>True) s_.2.1 bQ)∧(Kd.R k72 72 w' w.heap.size (fun _=>True) s_.2.2.1 bZ)∧(w'.heap[aC]?=some (.cells #[.slice aX aT.length bA,.slice bI aH.length bD,.slice bG aV.length bH] 28 (0,0)))∧(w'.heap[aI]?=some (.cells #[.slice none 0 0,.slice none 0 0,.slice none 0 0] 28 (0,0)))∧(w'.heap[s_.2.2.2]?=some (.cells #[.slice none 0 0,.slice none 0 0,.slice none 0 0] 28 (0,0)))∧(w.heap.size≤s_.2.2.2)∧(w.heap.size≤s_.2.2.2)∧(aC≠s_.2.2.2)∧(s_.2.2.2≠aC)∧(aI≠s_.2.2.2)∧(s_.2.2.2≠aI)∧(Below w.heap.size w w')) ?_ ?_
   rotate_left
   ·intro hJ0_3_4_9
    refine join_ (σ:=Value × Value × Value) 4 (bv 11 127) (fun s_=>[(5,s_.1),(8,s_.2.1),(9,s_.2.2)]) (fun s_ w'=>(w'.cell? ⟨aC,0,none⟩=some (.slice aX aT.length bA)∧w'.cell? ⟨aC,1,none⟩=some (.slice bI aH.length bD)∧w'.cell? ⟨aC,2,none⟩=some (.slice bG aV.length bH))∧(Kd.R Kd.bool 4 w' w.heap.size (fun _=>True) s_.2.1 bQ)∧(Kd.R k72 72 w' w.heap.size (fun _=>True) s_.2.2 bZ)∧(w'.heap[aC]?=some (.cells #[.slice aX aT.length bA,.slice bI aH.length bD,.slice bG aV.length bH] 28 (0,0)))∧(w'.heap[aI]?=some (.cells #[.slice none 0 0,.slice none 0 0,.slice none 0 0] 28 (0,0)))∧(Below w.heap.size w w')) ?_ ?_
    rotate_left
    ·intro hJ0_3_4
     refine join_ (σ:=Value × Value × Nat) 4 (bv 11 623) (fun s_=>[(5,s_.1),(8,s_.2.1),(3,.pointer (some ⟨s_.2.2,0,none⟩))]) (fun s_ w'=>(w'.cell? ⟨aC,0,none⟩=some (.slice aX aT.length bA)∧w'.cell? ⟨aC,1,none⟩=some (.slice bI aH.length bD)∧w'.cell? ⟨aC,2,none⟩=some (.slice bG aV.length bH))∧(Kd.R Kd.bool 4 w' w.heap.size (fun _=>True) s_.2.1 bQ)∧(w'.heap[aC]?=some (.cells #[.slice aX aT.length bA,.slice bI aH.length bD,.slice bG aV.length bH] 28 (0,0)))∧(w'.heap[aI]?=some (.cells #[.slice none 0 0,.slice none 0 0,.slice none 0 0] 28 (0,0)))∧(w'.heap[s_.2.2]?=some (.cells #[.slice none 0 0,.slice none 0 0,.slice none 0 0] 28 (0,0)))∧(w.heap.size≤s_.2.2)∧(w.heap.size≤s_.2.2)∧(aC≠s_.2.2)∧(s_.2.2≠aC)∧(aI≠s_.2.2)∧(s_.2.2≠aI)∧(Below w.heap.size w w')) ?_ ?_
     rotate_left
     ·intro hJ0_3_9
      refine join_ (σ:=Value × Value × Nat) 4 (bv 11 631) (fun s_=>[(5,s_.1),(9,s_.2.1),(3,.pointer (some ⟨s_.2.2,0,none⟩))]) (fun s_ w'=>(w'.cell? ⟨aC,0,none⟩=some (.slice aX aT.length bA)∧w'.cell? ⟨aC,1,none⟩=some (.slice bI aH.length bD)∧w'.cell? ⟨aC,2,none⟩=some (.slice bG aV.length bH))∧(Kd.R Kd.bool 4 w' w.heap.size (fun _=>True) s_.1 cC)∧(Kd.R k72 72 w' w.heap.size (fun _=>True) s_.2.1 bZ)∧(w'.heap[aC]?=some (.cells #[.slice aX aT.length bA,.slice bI aH.length bD,.slice bG aV.length bH] 28 (0,0)))∧(w'.heap[aI]?=some (.cells #[.slice none 0 0,.slice none 0 0,.slice none 0 0] 28 (0,0)))∧(w'.heap[s_.2.2]?=some (.cells #[.slice none 0 0,.slice none 0 0,.slice none 0 0] 28 (0,0)))∧(w.heap.size≤s_.2.2)∧(w.heap.size≤s_.2.2)∧(aC≠s_.2.2)∧(s_.2.2≠aC)∧(aI≠s_.2.2)∧(s_.2.2≠aI)∧(Below w.heap.size w w')) ?_ ?_
      rotate_left
      ·intro hJ0_4_9
       refine join_ (σ:=Value × Value) 5 (bv 11 111) (fun s_=>[(5,s_.1),(8,s_.2)]) (fun s_ w'=>(w'.cell? ⟨aC,0,none⟩=some (.slice aX aT.length bA)∧w'.cell? ⟨aC,1,none⟩=some (.slice bI aH.length bD)∧w'.cell? ⟨aC,2,none⟩=some (.slice bG aV.length bH))∧(Kd.R Kd.bool 4 w' w.heap.size (fun _=>True) s_.2 bQ)∧(w'.heap[aC]?=some (.cells #[.slice aX aT.length bA,.slice bI aH.length bD,.slice bG aV.length bH] 28 (0,0)))∧(w'.heap[aI]?=some (.cells #[.slice none 0 0,.slice none 0 0,.slice none 0 0] 28 (0,0)))∧(Below w.heap.size w w')) ?_ ?_
       rotate_left
       ·intro hJ0_3
        refine join_ (σ:=Value × Value) 5 (bv 11 119) (fun s_=>[(5,s_.1),(9,s_.2)]) (fun s_ w'=>(w'.cell? ⟨aC,0,none⟩=some (.slice aX aT.length bA)∧w'.cell? ⟨aC,1,none⟩=some (.slice bI aH.length bD)∧w'.cell? ⟨aC,2,none⟩=some (.slice bG aV.length bH))∧(Kd.R Kd.bool 4 w' w.heap.size (fun _=>True) s_.1 cC)∧(Kd.R k72 72 w' w.heap.size (fun _=>True) s_.2 bZ)∧(w'.heap[aC]?=some (.cells #[.slice aX aT.length bA,.slice bI aH.length bD,.slice bG aV.length bH] 28 (0,0)))∧(w'.heap[aI]?=some (.cells #[.slice none 0 0,.slice none 0 0,.slice none 0 0] 28 (0,0)))∧(Below w.heap.size w w')) ?_ ?_
        rotate_left
        ·intro hJ0_4
         refine join_ (σ:=Value × Nat) 5 (bv 11 615) (fun s_=>[(5,s_.1),(3,.pointer (some ⟨s_.2,0,none⟩))]) (fun s_ w'=>(w'.cell? ⟨aC,0,none⟩=some (.slice aX aT.length bA)∧w'.cell? ⟨aC,1,none⟩=some (.slice bI aH.length bD)∧w'.cell? ⟨aC,2,none⟩=some (.slice bG aV.length bH))∧(Kd.R Kd.bool 4 w' w.heap.size (fun _=>True) s_.1 cC)∧(w'.heap[aC]?=some (.cells #[.slice aX aT.length bA,.slice bI aH.length bD,.slice bG aV.length bH] 28 (0,0)))∧(w'.heap[aI]?=some (.cells #[.slice none 0 0,.slice none 0 0,.slice none 0 0] 28 (0,0)))∧(w'.heap[s_.2]?=some (.cells #[.slice none 0 0,.slice none 0 0,.slice none 0 0] 28 (0,0)))∧(w.heap.size≤s_.2)∧(w.heap.size≤s_.2)∧(aC≠s_.2)∧(s_.2≠aC)∧(aI≠s_.2)∧(s_.2≠aI)∧(Below w.heap.size w w')) ?_ ?_
         rotate_left
         ·intro hJ0_9
          refine join_ (σ:=Value × Nat) 5 (bv 11 630) (fun s_=>[(9,s_.1),(3,.pointer (some ⟨s_.2,0,none⟩))]) (fun s_ w'=>(w'.cell? ⟨aC,0,none⟩=some (.slice aX aT.length bA)∧w'.cell? ⟨aC,1,none⟩=some (.slice bI aH.length bD)∧w'.cell? ⟨aC,2,none⟩=some (.slice bG aV.length bH))∧(Kd.R k72 72 w' w.heap.size (fun _=>True) s_.1 bZ)∧(w'.heap[aC]?=some (.cells #[.slice aX aT.length bA,.slice bI aH.length bD,.slice bG aV.length bH] 28 (0,0)))∧(w'.heap[aI]?=some (.cells #[.slice none 0 0,.slice none 0 0,.slice none 0 0] 28 (0,0)))∧(w'.heap[s_.2]?=some (.cells #[.slice none 0 0,.slice none 0 0,.slice none 0 0] 28 (0,0)))∧(w.heap.size≤s_.2)∧(w.heap.size≤s_.2)∧(aC≠s_.2)∧(s_.2≠aC)∧(aI≠s_.2)∧(s_.2≠aI)∧(Below w.heap.size w w')) ?_ ?_
          rotate_left
          ·intro hJ4_9
           refine join_ (σ:=Value) 6 (bv 11 103) (fun s_=>[(5,s_)]) (fun s_ w'=>(w'.cell? ⟨aC,0,none⟩=some (.slice aX aT.length bA)∧w'.cell? ⟨aC,1,none⟩=some (.slice bI aH.length bD)∧w'.cell? ⟨aC,2,none⟩=some (.slice bG aV.length bH))∧(Kd.R Kd.bool 4 w' w.heap.size (fun _=>True) s_ cC)∧(w'.heap[aC]?=some (.cells #[.slice aX aT.length bA,.slice bI aH.length bD,.slice bG aV.length bH] 28 (0,0)))∧(w'.heap[aI]?=some (.cells #[.slice none 0 0,.slice none 0 0,.slice none 0 0] 28 (0,0)))∧(Below w.heap.size w w')) ?_ ?_
           rotate_left
           ·intro hJ0
            refine join_ (σ:=Value) 6 (bv 11 118) (fun s_=>[(9,s_)]) (fun s_ w'=>(w'.cell? ⟨aC,0,none⟩=some (.slice aX aT.length bA)∧w'.cell? ⟨aC,1,none⟩=some (.slice bI aH.length bD)∧w'.cell? ⟨aC,2,none⟩=some (.slice bG aV.length bH))∧(Kd.R k72 72 w' w.heap.size (fun _=>True) s_ bZ)∧(w'.heap[aC]?=some (.cells #[.slice aX aT.length bA,.slice bI aH.length bD,.slice bG aV.length bH] 28 (0,0)))∧(w'.heap[aI]?=some (.cells #[.slice none 0 0,.slice none 0 0,.slice none 0 0] 28 (0,0)))∧(Below w.heap.size w w')) ?_ ?_
            rotate_left
            ·intro hJ4
             refine join_ (σ:=Nat) 6 (bv 11 614) (fun s_=>[(3,.pointer (some ⟨s_,0,none⟩))]) (fun s_ w'=>(w'.cell? ⟨aC,0,none⟩=some (.slice aX aT.length bA)∧w'.cell? ⟨aC,1,none⟩=some (.slice bI aH.length bD)∧w'.cell? ⟨aC,2,none⟩=some (.slice bG aV.length bH))∧(w'.heap[aC]?=some (.cells #[.slice aX aT.length bA,.slice bI aH.length bD,.slice bG aV.length bH] 28 (0,0)))∧(w'.heap[aI]?=some (.cells #[.slice none 0 0,.slice none 0 0,.slice none 0 0] 28 (0,0)))∧(w'.heap[s_]?=some (.cells #[.slice none 0 0,.slice none 0 0,.slice none 0 0] 28 (0,0)))∧(w.heap.size≤s_)∧(w.heap.size≤s_)∧(aC≠s_)∧(s_≠aC)∧(aI≠s_)∧(s_≠aI)∧(Below w.heap.size w w')) ?_ ?_
             rotate_left
             ·intro hJ9
              refine three_ (i:=0) (j:=4) (k:=9) (Ni:=some 5) (Nj:=some 9) (Nk:=some 3) (bv 11 103) (bv 11 118) (bv 11 614) rfl rfl rfl rfl rfl rfl (three_of HT_.out (by kernel_rfl)) (by decide) (by decide) (by decide) (fun K hK=>?_) (fun K hK=>?_) (fun K hK=>?_)
              ·skip
               refine Kd.R_lit_step Kd.bool _ 4 ?hg (N:=5) ?hd (xs:=([]:List Bool)) (inner:=[]) (ok:=fun _=>True) (okp:=fun _=>True) ?hr ?hp (fun _ hk=>hk) trivial (Below.refl _ _) (Nat.le_refl _) (by simp) ?_;(case hd=>rfl);(case hg=>rfl);(case hr=>(go_simp;done));(case hp=>exact (Reps.none _ _))
               intro bM w7 ho8 hb hg_ hnew_;clear hg_ hnew_
               (rw [← cR.out] at ho8)
               have bJ:=aM (Kd.R_lower ho8 (below_size (bl HB.out)));replace aA:=rB aA hb;replace aD:=rB aD hb;replace HB:=rS HB hb;clear hb ho8;refine hK.out _ _ ⟨cI aA.out 0,cI aA.out 1,cI aA.out 2⟩ (fun hHeld=>?_)
               clear hK K;refine norm_ (a':=?_) ?_ ?_;rotate_left
               ·show Act.put _ (some 5) _=_
                simp only [Act.put,sA,sZ,sS,i64_w,i32_w]
                rfl
               exact norm_ (by (simp only [putAll,Act.put,sA,sZ,sS];done)) (hJ0 (bM) _ ⟨hHeld,(kr bJ.out),(bk aA.out),(bk aD.out),(bl HB.out)⟩)
              ·skip
               refine Kd.R_lit_step k72 _ 72 ?hg (N:=9) ?hd (xs:=([]:List (S72))) (inner:=[]) (ok:=fun _=>True) (okp:=fun _=>True) ?hr ?hp (fun _ hk=>hk) trivial (Below.refl _ _) (Nat.le_refl _) (by simp) ?_;(case hd=>rfl);(case hg=>rfl);(case hr=>(go_simp;done));(case hp=>exact (Reps.none _ _))
               intro bN w7 ho8 hb hg_ hnew_;clear hg_ hnew_
               (rw [← cH.out] at ho8)
               have aW:=aM (Kd.R_lower ho8 (below_size (bl HB.out)));replace aA:=rB aA hb;replace aD:=rB aD hb;replace HB:=rS HB hb;clear hb ho8;refine hK.out _ _ ⟨cI aA.out 0,cI aA.out 1,cI aA.out 2⟩ (fun hHeld=>?_)
               clear hK K;refine norm_ (a':=?_) ?_ ?_;rotate_left
               ·show Act.put _ (some 9) _=_
                simp only [Act.put,sA,sZ,sS,i64_w,i32_w]
                rfl
               exact norm_ (by (simp only [putAll,Act.put,sA,sZ,sS];done)) (hJ4 (bN) _ ⟨hHeld,(kr aW.out),(bk aA.out),(bk aD.out),(bl HB.out)⟩)
              ·skip
               refine box_step ?hg (N:=3) ?hd (cs:=#[.slice none 0 0,.slice none 0 0,.slice none 0 0]) (t:=28) ?hr ?_;(case hd=>rfl);(case hg=>rfl);(case hr=>(go_simp;done))
               intro aG hg w7 hbox hb;have aE:=aM (hbox);have bO:=gF hg HB;have bP:=gF hg HB;have aJ:=nM hg aA;have aK:=nH hg aA;have aN:=nM hg aD;have aQ:=nH hg aD;replace aA:=rB aA hb;replace aD:=rB aD hb;replace HB:=rS HB hb;clear hb hbox hg;refine hK.out _ _ ⟨cI aA.out 0,cI aA.out 1,cI aA.out 2⟩ (fun hHeld=>?_)
               clear hK K;refine norm_ (a':=?_) ?_ ?_;rotate_left
               ·show Act.put _ (some 3) _=_
                simp only [Act.put,sA,sZ,sS,i64_w,i32_w]
                rfl
               exact norm_ (by (simp only [putAll,Act.put,sA,sZ,sS];done)) (hJ9 (aG) _ ⟨hHeld,(bk aA.out),(bk aD.out),(bk aE.out),bO.out,bP.out,aJ.out,aK.out,aN.out,aQ.out,(bl HB.out)⟩)
             ·skip
              rintro aG w8 ⟨hS_,h0_,h1_,h2_,h3_,h4_,h5_,h6_,h7_,h8_,h9_⟩;have aE:Aside0 (w8.heap[aG]?=some (.cells #[.slice none 0 0,.slice none 0 0,.slice none 0 0] 28 (0,0))):=⟨h2_⟩;have bO:Aside0 (w.heap.size≤aG):=⟨h3_⟩;have bP:Aside0 (w.heap.size≤aG):=⟨h4_⟩;have aJ:Aside0 (aC≠aG):=⟨h5_⟩;have aK:Aside0 (aG≠aC):=⟨h6_⟩;have aN:Aside0 (aI≠aG):=⟨h7_⟩;have aQ:Aside0 (aG≠aI):=⟨h8_⟩;replace aA:Aside0 (w8.heap[aC]?=some (.cells #[.slice aX aT.length bA,.slice bI aH.length bD,.slice bG aV.length bH] 28 (0,0))):=⟨h0_⟩;replace aD:Aside0 (w8.heap[aI]?=some (.cells #[.slice none 0 0,.slice none 0 0,.slice none 0 0] 28 (0,0))):=⟨h1_⟩;replace HB:Aside0 (Below w.heap.size w w8):=⟨h9_⟩;clear h0_ h1_ h2_ h3_ h4_ h5_ h6_ h7_ h8_ h9_;have hHeld:w8.cell? ⟨aC,0,none⟩=some (.slice aX aT.length bA)∧w8.cell? ⟨aC,1,none⟩=some (.slice bI aH.length bD)∧w8.cell? ⟨aC,2,none⟩=some (.slice bG aV.length bH):=hS_;refine norm_ (a':=?_) ?_ ?_;rotate_left
              ·simp only [putAll,Act.put,sA,sZ,sS]
               rfl
              refine two_ (i:=0) (j:=4) (Ni:=some 5) (Nj:=some 9) (bv 11 615) (bv 11 630) rfl rfl rfl rfl (two_of HT_.out (by kernel_rfl)) (by decide) (by decide) (fun K hK=>?_) (fun K hK=>?_)
              ·skip
               refine Kd.R_lit_step Kd.bool _ 4 ?hg (N:=5) ?hd (xs:=([]:List Bool)) (inner:=[]) (ok:=fun _=>True) (okp:=fun _=>True) ?hr ?hp (fun _ hk=>hk) trivial (Below.refl _ _) (Nat.le_refl _) (by simp) ?_;(case hd=>rfl);(case hg=>rfl);(case hr=>(go_simp;done));(case hp=>exact (Reps.none _ _))
               intro bM w9 ho10 hb hg_ hnew_;clear hg_ hnew_
               (rw [← cR.out] at ho10)
               have bJ:=aM (Kd.R_lower ho10 (below_size (bl HB.out)));replace aA:=rB aA hb;replace aD:=rB aD hb;replace aE:=rB aE hb;replace HB:=rS HB hb;clear hb ho10;refine hK.out _ _ ⟨cI aA.out 0,cI aA.out 1,cI aA.out 2⟩ (fun hHeld=>?_)
               clear hK K;refine norm_ (a':=?_) ?_ ?_;rotate_left
               ·show Act.put _ (some 5) _=_
                simp only [Act.put,sA,sZ,sS,i64_w,i32_w]
                rfl
               exact norm_ (by (simp only [putAll,Act.put,sA,sZ,sS];done)) (hJ0_9 (bM,aG) _ ⟨hHeld,(kr bJ.out),(bk aA.out),(bk aD.out),(bk aE.out),bO.out,bP.out,aJ.out,aK.out,aN.out,aQ.out,(bl HB.out)⟩)
              ·skip
               refine Kd.R_lit_step k72 _ 72 ?hg (N:=9) ?hd (xs:=([]:List (S72))) (inner:=[]) (ok:=fun _=>True) (okp:=fun _=>True) ?hr ?hp (fun _ hk=>hk) trivial (Below.refl _ _) (Nat.le_refl _) (by simp) ?_;(case hd=>rfl);(case hg=>rfl);(case hr=>(go_simp;done));(case hp=>exact (Reps.none _ _))
               intro bN w9 ho10 hb hg_ hnew_;clear hg_ hnew_
               (rw [← cH.out] at ho10)
               have aW:=aM (Kd.R_lower ho10 (below_size (bl HB.out)));replace aA:=rB aA hb;replace aD:=rB aD hb;replace aE:=rB aE hb;replace HB:=rS HB hb;clear hb ho10;refine hK.out _ _ ⟨cI aA.out 0,cI aA.out 1,cI aA.out 2⟩ (fun hHeld=>?_)
               clear hK K;refine norm_ (a':=?_) ?_ ?_;rotate_left
               ·show Act.put _ (some 9) _=_
                simp only [Act.put,sA,sZ,sS,i64_w,i32_w]
                rfl
               exact norm_ (by (simp only [putAll,Act.put,sA,sZ,sS];done)) (hJ4_9 (bN,aG) _ ⟨hHeld,(kr aW.out),(bk aA.out),(bk aD.out),(bk aE.out),bO.out,bP.out,aJ.out,aK.out,aN.out,aQ.out,(bl HB.out)⟩)
            ·skip
             rintro bN w9 ⟨hS_,h0_,h1_,h2_,h3_⟩;have aW:Aside0 (Kd.R k72 72 w9 w.heap.size (fun _=>True) bN bZ):=⟨h0_⟩
             replace aA:Aside0 (w9.heap[aC]?=some (.cells #[.slice aX aT.length bA,.slice bI aH.length bD,.slice bG aV.length bH] 28 (0,0))):=⟨h1_⟩;replace aD:Aside0 (w9.heap[aI]?=some (.cells #[.slice none 0 0,.slice none 0 0,.slice none 0 0] 28 (0,0))):=⟨h2_⟩;replace HB:Aside0 (Below w.heap.size w w9):=⟨h3_⟩;clear h0_ h1_ h2_ h3_;have hHeld:w9.cell? ⟨aC,0,none⟩=some (.slice aX aT.length bA)∧w9.cell? ⟨aC,1,none⟩=some (.slice bI aH.length bD)∧w9.cell? ⟨aC,2,none⟩=some (.slice bG aV.length bH):=hS_;refine norm_ (a':=?_) ?_ ?_;rotate_left
             ·simp only [putAll,Act.put,sA,sZ,sS]
              rfl
             refine two_ (i:=0) (j:=9) (Ni:=some 5) (Nj:=some 3) (bv 11 119) (bv 11 630) rfl rfl rfl rfl (two_of HT_.out (by kernel_rfl)) (by decide) (by decide) (fun K hK=>?_) (fun K hK=>?_)
             ·skip
              refine Kd.R_lit_step Kd.bool _ 4 ?hg (N:=5) ?hd (xs:=([]:List Bool)) (inner:=[]) (ok:=fun _=>True) (okp:=fun _=>True) ?hr ?hp (fun _ hk=>hk) trivial (Below.refl _ _) (Nat.le_refl _) (by simp) ?_;(case hd=>rfl);(case hg=>rfl);(case hr=>(go_simp;done));(case hp=>exact (Reps.none _ _))
              intro bM bY ho11 hb hg_ hnew_;clear hg_ hnew_
              (rw [← cR.out] at ho11)
              have bJ:=aM (Kd.R_lower ho11 (below_size (bl HB.out)));replace aW:=rK aW hb;replace aA:=rB aA hb;replace aD:=rB aD hb;replace HB:=rS HB hb;clear hb ho11;refine hK.out _ _ ⟨cI aA.out 0,cI aA.out 1,cI aA.out 2⟩ (fun hHeld=>?_)
              clear hK K;refine norm_ (a':=?_) ?_ ?_;rotate_left
              ·show Act.put _ (some 5) _=_
               simp only [Act.put,sA,sZ,sS,i64_w,i32_w]
               rfl
              exact norm_ (by (simp only [putAll,Act.put,sA,sZ,sS];done)) (hJ0_4 (bM,bN) _ ⟨hHeld,(kr bJ.out),(kr aW.out),(bk aA.out),(bk aD.out),(bl HB.out)⟩)
             ·skip
              refine box_step ?hg (N:=3) ?hd (cs:=#[.slice none 0 0,.slice none 0 0,.slice none 0 0]) (t:=28) ?hr ?_;(case hd=>rfl);(case hg=>rfl);(case hr=>(go_simp;done))
              intro aG hg bY hbox hb;have aE:=aM (hbox);have bO:=gF hg HB;have bP:=gF hg HB;have aJ:=nM hg aA;have aK:=nH hg aA;have aN:=nM hg aD;have aQ:=nH hg aD;replace aW:=rK aW hb;replace aA:=rB aA hb;replace aD:=rB aD hb;replace HB:=rS HB hb;clear hb hbox hg;refine hK.out _ _ ⟨cI aA.out 0,cI aA.out 1,cI aA.out 2⟩ (fun hHeld=>?_)
              clear hK K;refine norm_ (a':=?_) ?_ ?_;rotate_left
              ·show Act.put _ (some 3) _=_
               simp only [Act.put,sA,sZ,sS,i64_w,i32_w]
               rfl
              exact norm_ (by (simp only [putAll,Act.put,sA,sZ,sS];done)) (hJ4_9 (bN,aG) _ ⟨hHeld,(kr aW.out),(bk aA.out),(bk aD.out),(bk aE.out),bO.out,bP.out,aJ.out,aK.out,aN.out,aQ.out,(bl HB.out)⟩)
           ·skip
            rintro bM w9 ⟨hS_,h0_,h1_,h2_,h3_⟩;have bJ:Aside0 (Kd.R Kd.bool 4 w9 w.heap.size (fun _=>True) bM cC):=⟨h0_⟩
            replace aA:Aside0 (w9.heap[aC]?=some (.cells #[.slice aX aT.length bA,.slice bI aH.length bD,.slice bG aV.length bH] 28 (0,0))):=⟨h1_⟩;replace aD:Aside0 (w9.heap[aI]?=some (.cells #[.slice none 0 0,.slice none 0 0,.slice none 0 0] 28 (0,0))):=⟨h2_⟩;replace HB:Aside0 (Below w.heap.size w w9):=⟨h3_⟩;clear h0_ h1_ h2_ h3_;have hHeld:w9.cell? ⟨aC,0,none⟩=some (.slice aX aT.length bA)∧w9.cell? ⟨aC,1,none⟩=some (.slice bI aH.length bD)∧w9.cell? ⟨aC,2,none⟩=some (.slice bG aV.length bH):=hS_;refine norm_ (a':=?_) ?_ ?_;rotate_left
            ·simp only [putAll,Act.put,sA,sZ,sS]
             rfl
            refine three_ (i:=3) (j:=4) (k:=9) (Ni:=some 8) (Nj:=some 9) (Nk:=some 3) (bv 11 111) (bv 11 119) (bv 11 615) rfl rfl rfl rfl rfl rfl (three_of HT_.out (by kernel_rfl)) (by decide) (by decide) (by decide) (fun K hK=>?_) (fun K hK=>?_) (fun K hK=>?_)
            ·skip
             refine Kd.R_append_rows_step Kd.bool (w0:=w) w.heap.size (by rfl) (.tmp 5) (.tmp 7) 24 4 (.bool false) 1 rfl Try.underlying24 info4 rfl (by decide) (by omega) bM cC aT _ _ _ (fun _=>True) (fun _=>False) rfl rfl ?aO ?aR (fun _ _ h=>h) (fun _ h=>h.elim) ?aF ?aB ?aS ?aL ?_
             (case aR=>repeat (exact (cB dM.out HB.out)))
             (case aB=>exact (bl HB.out))
             (case aF=>exact (fun _ _=>trivial))
             (case aO=>exact (kr bJ.out))
             (case aS=>exact (below_size (bl HB.out)))
             (case aL=>have:=LMc2.out;omega)
             intro bX bY ho hb hg hat;rw [← dN.out] at ho
             have bK:=aM (ho);replace aA:=aM (blk_grown (bk aA.out) hg (Kd.R_ne bJ.out aA.out (by decide)))
             replace aD:=aM (blk_grown (bk aD.out) hg (Kd.R_ne bJ.out aD.out (by decide)))
             replace HB:=aM (hb);clear bJ;clear ho hb hg hat;refine hK.out _ _ ⟨cI aA.out 0,cI aA.out 1,cI aA.out 2⟩ (fun hHeld=>?_)
             clear hK K;refine norm_ (a':=?_) ?_ ?_;rotate_left
             ·show Act.put _ (some 8) _=_
              simp only [Act.put,sA,sZ,sS,i64_w,i32_w]
              rfl
             exact norm_ (by (simp only [putAll,Act.put,sA,sZ,sS];done)) (hJ0_3 (bM,bX) _ ⟨hHeld,(kr bK.out),(bk aA.out),(bk aD.out),(bl HB.out)⟩)
            ·skip
             refine Kd.R_lit_step k72 _ 72 ?hg (N:=9) ?hd (xs:=([]:List (S72))) (inner:=[]) (ok:=fun _=>True) (okp:=fun _=>True) ?hr ?hp (fun _ hk=>hk) trivial (Below.refl _ _) (Nat.le_refl _) (by simp) ?_;(case hd=>rfl);(case hg=>rfl);(case hr=>(go_simp;done));(case hp=>exact (Reps.none _ _))
             intro bN bY ho11 hb hg_ hnew_;clear hg_ hnew_
             (rw [← cH.out] at ho11)
             have aW:=aM (Kd.R_lower ho11 (below_size (bl HB.out)));replace bJ:=rK bJ hb;replace aA:=rB aA hb;replace aD:=rB aD hb;replace HB:=rS HB hb;clear hb ho11;refine hK.out _ _ ⟨cI aA.out 0,cI aA.out 1,cI aA.out 2⟩ (fun hHeld=>?_)
             clear hK K;refine norm_ (a':=?_) ?_ ?_;rotate_left
             ·show Act.put _ (some 9) _=_
              simp only [Act.put,sA,sZ,sS,i64_w,i32_w]
              rfl
             exact norm_ (by (simp only [putAll,Act.put,sA,sZ,sS];done)) (hJ0_4 (bM,bN) _ ⟨hHeld,(kr bJ.out),(kr aW.out),(bk aA.out),(bk aD.out),(bl HB.out)⟩)
            ·skip
             refine box_step ?hg (N:=3) ?hd (cs:=#[.slice none 0 0,.slice none 0 0,.slice none 0 0]) (t:=28) ?hr ?_;(case hd=>rfl);(case hg=>rfl);(case hr=>(go_simp;done))
             intro aG hg bY hbox hb;have aE:=aM (hbox);have bO:=gF hg HB;have bP:=gF hg HB;have aJ:=nM hg aA;have aK:=nH hg aA;have aN:=nM hg aD;have aQ:=nH hg aD;replace bJ:=rK bJ hb;replace aA:=rB aA hb;replace aD:=rB aD hb;replace HB:=rS HB hb;clear hb hbox hg;refine hK.out _ _ ⟨cI aA.out 0,cI aA.out 1,cI aA.out 2⟩ (fun hHeld=>?_)
             clear hK K;refine norm_ (a':=?_) ?_ ?_;rotate_left
             ·show Act.put _ (some 3) _=_
              simp only [Act.put,sA,sZ,sS,i64_w,i32_w]
              rfl
             exact norm_ (by (simp only [putAll,Act.put,sA,sZ,sS];done)) (hJ0_9 (bM,aG) _ ⟨hHeld,(kr bJ.out),(bk aA.out),(bk aD.out),(bk aE.out),bO.out,bP.out,aJ.out,aK.out,aN.out,aQ.out,(bl HB.out)⟩)
          ·skip
           rintro ⟨bN,aG⟩ bY ⟨hS_,h0_,h1_,h2_,h3_,h4_,h5_,h6_,h7_,h8_,h9_,h10_⟩;have aW:Aside0 (Kd.R k72 72 bY w.heap.size (fun _=>True) bN bZ):=⟨h0_⟩
           have aE:Aside0 (bY.heap[aG]?=some (.cells #[.slice none 0 0,.slice none 0 0,.slice none 0 0] 28 (0,0))):=⟨h3_⟩;have bO:Aside0 (w.heap.size≤aG):=⟨h4_⟩;have bP:Aside0 (w.heap.size≤aG):=⟨h5_⟩;have aJ:Aside0 (aC≠aG):=⟨h6_⟩;have aK:Aside0 (aG≠aC):=⟨h7_⟩;have aN:Aside0 (aI≠aG):=⟨h8_⟩;have aQ:Aside0 (aG≠aI):=⟨h9_⟩;replace aA:Aside0 (bY.heap[aC]?=some (.cells #[.slice aX aT.length bA,.slice bI aH.length bD,.slice bG aV.length bH] 28 (0,0))):=⟨h1_⟩;replace aD:Aside0 (bY.heap[aI]?=some (.cells #[.slice none 0 0,.slice none 0 0,.slice none 0 0] 28 (0,0))):=⟨h2_⟩;replace HB:Aside0 (Below w.heap.size w bY):=⟨h10_⟩;clear h0_ h1_ h2_ h3_ h4_ h5_ h6_ h7_ h8_ h9_ h10_;have hHeld:bY.cell? ⟨aC,0,none⟩=some (.slice aX aT.length bA)∧bY.cell? ⟨aC,1,none⟩=some (.slice bI aH.length bD)∧bY.cell? ⟨aC,2,none⟩=some (.slice bG aV.length bH):=hS_;refine norm_ (a':=?_) ?_ ?_;rotate_left
           ·simp only [putAll,Act.put,sA,sZ,sS]
            rfl
           refine one_ (i:=0) (N:=some 5) (bv 11 631) rfl rfl (one_of HT_.out (by kernel_rfl)) (by decide) (fun K hK=>?_)
           refine Kd.R_lit_step Kd.bool _ 4 ?hg (N:=5) ?hd (xs:=([]:List Bool)) (inner:=[]) (ok:=fun _=>True) (okp:=fun _=>True) ?hr ?hp (fun _ hk=>hk) trivial (Below.refl _ _) (Nat.le_refl _) (by simp) ?_;(case hd=>rfl);(case hg=>rfl);(case hr=>(go_simp;done));(case hp=>exact (Reps.none _ _))
           intro bM cE ho12 hb hg_ hnew_;clear hg_ hnew_
           (rw [← cR.out] at ho12)
           have bJ:=aM (Kd.R_lower ho12 (below_size (bl HB.out)));replace aW:=rK aW hb;replace aA:=rB aA hb;replace aD:=rB aD hb;replace aE:=rB aE hb;replace HB:=rS HB hb;clear hb ho12;refine hK.out _ _ ⟨cI aA.out 0,cI aA.out 1,cI aA.out 2⟩ (fun hHeld=>?_)
           clear hK K;refine norm_ (a':=?_) ?_ ?_;rotate_left
           ·show Act.put _ (some 5) _=_
            simp only [Act.put,sA,sZ,sS,i64_w,i32_w]
            rfl
           exact norm_ (by (simp only [putAll,Act.put,sA,sZ,sS];done)) (hJ0_4_9 (bM,bN,aG) _ ⟨hHeld,(kr bJ.out),(kr aW.out),(bk aA.out),(bk aD.out),(bk aE.out),bO.out,bP.out,aJ.out,aK.out,aN.out,aQ.out,(bl HB.out)⟩)
         ·skip
          rintro ⟨bM,aG⟩ bY ⟨hS_,h0_,h1_,h2_,h3_,h4_,h5_,h6_,h7_,h8_,h9_,h10_⟩;have bJ:Aside0 (Kd.R Kd.bool 4 bY w.heap.size (fun _=>True) bM cC):=⟨h0_⟩
          have aE:Aside0 (bY.heap[aG]?=some (.cells #[.slice none 0 0,.slice none 0 0,.slice none 0 0] 28 (0,0))):=⟨h3_⟩;have bO:Aside0 (w.heap.size≤aG):=⟨h4_⟩;have bP:Aside0 (w.heap.size≤aG):=⟨h5_⟩;have aJ:Aside0 (aC≠aG):=⟨h6_⟩;have aK:Aside0 (aG≠aC):=⟨h7_⟩;have aN:Aside0 (aI≠aG):=⟨h8_⟩;have aQ:Aside0 (aG≠aI):=⟨h9_⟩;replace aA:Aside0 (bY.heap[aC]?=some (.cells #[.slice aX aT.length bA,.slice bI aH.length bD,.slice bG aV.length bH] 28 (0,0))):=⟨h1_⟩;replace aD:Aside0 (bY.heap[aI]?=some (.cells #[.slice none 0 0,.slice none 0 0,.slice none 0 0] 28 (0,0))):=⟨h2_⟩;replace HB:Aside0 (Below w.heap.size w bY):=⟨h10_⟩;clear h0_ h1_ h2_ h3_ h4_ h5_ h6_ h7_ h8_ h9_ h10_;have hHeld:bY.cell? ⟨aC,0,none⟩=some (.slice aX aT.length bA)∧bY.cell? ⟨aC,1,none⟩=some (.slice bI aH.length bD)∧bY.cell? ⟨aC,2,none⟩=some (.slice bG aV.length bH):=hS_;refine norm_ (a':=?_) ?_ ?_;rotate_left
          ·simp only [putAll,Act.put,sA,sZ,sS]
           rfl
          refine two_ (i:=3) (j:=4) (Ni:=some 8) (Nj:=some 9) (bv 11 623) (bv 11 631) rfl rfl rfl rfl (two_of HT_.out (by kernel_rfl)) (by decide) (by decide) (fun K hK=>?_) (fun K hK=>?_)
          ·skip
           refine Kd.R_append_rows_step Kd.bool (w0:=w) w.heap.size (by rfl) (.tmp 5) (.tmp 7) 24 4 (.bool false) 1 rfl Try.underlying24 info4 rfl (by decide) (by omega) bM cC aT _ _ _ (fun _=>True) (fun _=>False) rfl rfl ?aO ?aR (fun _ _ h=>h) (fun _ h=>h.elim) ?aF ?aB ?aS ?aL ?_
           (case aR=>repeat (exact (cB dM.out HB.out)))
           (case aB=>exact (bl HB.out))
           (case aF=>exact (fun _ _=>trivial))
           (case aO=>exact (kr bJ.out))
           (case aS=>exact (below_size (bl HB.out)))
           (case aL=>have:=LMc2.out;omega)
           intro bX cE ho hb hg hat;rw [← dN.out] at ho
           have bK:=aM (ho);replace aA:=aM (blk_grown (bk aA.out) hg (Kd.R_ne bJ.out aA.out (by decide)))
           replace aD:=aM (blk_grown (bk aD.out) hg (Kd.R_ne bJ.out aD.out (by decide)))
           replace aE:=aM (blk_grown (bk aE.out) hg (Kd.R_ne bJ.out aE.out (by decide)))
           replace HB:=aM (hb);clear bJ;clear ho hb hg hat;refine hK.out _ _ ⟨cI aA.out 0,cI aA.out 1,cI aA.out 2⟩ (fun hHeld=>?_)
           clear hK K;refine norm_ (a':=?_) ?_ ?_;rotate_left
           ·show Act.put _ (some 8) _=_
            simp only [Act.put,sA,sZ,sS,i64_w,i32_w]
            rfl
           exact norm_ (by (simp only [putAll,Act.put,sA,sZ,sS];done)) (hJ0_3_9 (bM,bX,aG) _ ⟨hHeld,(kr bK.out),(bk aA.out),(bk aD.out),(bk aE.out),bO.out,bP.out,aJ.out,aK.out,aN.out,aQ.out,(bl HB.out)⟩)
          ·skip
           refine Kd.R_lit_step k72 _ 72 ?hg (N:=9) ?hd (xs:=([]:List (S72))) (inner:=[]) (ok:=fun _=>True) (okp:=fun _=>True) ?hr ?hp (fun _ hk=>hk) trivial (Below.refl _ _) (Nat.le_refl _) (by simp) ?_;(case hd=>rfl);(case hg=>rfl);(case hr=>(go_simp;done));(case hp=>exact (Reps.none _ _))
           intro bN cE ho12 hb hg_ hnew_;clear hg_ hnew_
           (rw [← cH.out] at ho12)
           have aW:=aM (Kd.R_lower ho12 (below_size (bl HB.out)));replace bJ:=rK bJ hb;replace aA:=rB aA hb;replace aD:=rB aD hb;replace aE:=rB aE hb;replace HB:=rS HB hb;clear hb ho12;refine hK.out _ _ ⟨cI aA.out 0,cI aA.out 1,cI aA.out 2⟩ (fun hHeld=>?_)
           clear hK K;refine norm_ (a':=?_) ?_ ?_;rotate_left
           ·show Act.put _ (some 9) _=_
            simp only [Act.put,sA,sZ,sS,i64_w,i32_w]
            rfl
           exact norm_ (by (simp only [putAll,Act.put,sA,sZ,sS];done)) (hJ0_4_9 (bM,bN,aG) _ ⟨hHeld,(kr bJ.out),(kr aW.out),(bk aA.out),(bk aD.out),(bk aE.out),bO.out,bP.out,aJ.out,aK.out,aN.out,aQ.out,(bl HB.out)⟩)
        ·skip
         rintro ⟨bM,bN⟩ cE ⟨hS_,h0_,h1_,h2_,h3_,h4_⟩;have bJ:Aside0 (Kd.R Kd.bool 4 cE w.heap.size (fun _=>True) bM cC):=⟨h0_⟩
         have aW:Aside0 (Kd.R k72 72 cE w.heap.size (fun _=>True) bN bZ):=⟨h1_⟩
         replace aA:Aside0 (cE.heap[aC]?=some (.cells #[.slice aX aT.length bA,.slice bI aH.length bD,.slice bG aV.length bH] 28 (0,0))):=⟨h2_⟩;replace aD:Aside0 (cE.heap[aI]?=some (.cells #[.slice none 0 0,.slice none 0 0,.slice none 0 0] 28 (0,0))):=⟨h3_⟩;replace HB:Aside0 (Below w.heap.size w cE):=⟨h4_⟩;clear h0_ h1_ h2_ h3_ h4_;have hHeld:cE.cell? ⟨aC,0,none⟩=some (.slice aX aT.length bA)∧cE.cell? ⟨aC,1,none⟩=some (.slice bI aH.length bD)∧cE.cell? ⟨aC,2,none⟩=some (.slice bG aV.length bH):=hS_;refine norm_ (a':=?_) ?_ ?_;rotate_left
         ·simp only [putAll,Act.put,sA,sZ,sS]
          rfl
         refine two_ (i:=3) (j:=9) (Ni:=some 8) (Nj:=some 3) (bv 11 127) (bv 11 631) rfl rfl rfl rfl (two_of HT_.out (by kernel_rfl)) (by decide) (by decide) (fun K hK=>?_) (fun K hK=>?_)
         ·skip
          refine Kd.R_append_rows_step Kd.bool (w0:=w) w.heap.size (by rfl) (.tmp 5) (.tmp 7) 24 4 (.bool false) 1 rfl Try.underlying24 info4 rfl (by decide) (by omega) bM cC aT _ _ _ (fun _=>True) (fun _=>False) rfl rfl ?aO ?aR (fun _ _ h=>h) (fun _ h=>h.elim) ?aF ?aB ?aS ?aL ?_
          (case aR=>repeat (exact (cB dM.out HB.out)))
          (case aB=>exact (bl HB.out))
          (case aF=>exact (fun _ _=>trivial))
          (case aO=>exact (kr bJ.out))
          (case aS=>exact (below_size (bl HB.out)))
          (case aL=>have:=LMc2.out;omega)
          intro bX cG ho hb hg hat;rw [← dN.out] at ho
          have bK:=aM (ho);replace aA:=aM (blk_grown (bk aA.out) hg (Kd.R_ne bJ.out aA.out (by decide)))
          replace aD:=aM (blk_grown (bk aD.out) hg (Kd.R_ne bJ.out aD.out (by decide)))
          replace aW:=aM (Kd.R_over' (kr aW.out) (Kd.R_typed (kr bJ.out)) (by decide) hg)
          replace HB:=aM (hb);clear bJ;clear ho hb hg hat;refine hK.out _ _ ⟨cI aA.out 0,cI aA.out 1,cI aA.out 2⟩ (fun hHeld=>?_)
          clear hK K;refine norm_ (a':=?_) ?_ ?_;rotate_left
          ·show Act.put _ (some 8) _=_
           simp only [Act.put,sA,sZ,sS,i64_w,i32_w]
           rfl
          exact norm_ (by (simp only [putAll,Act.put,sA,sZ,sS];done)) (hJ0_3_4 (bM,bX,bN) _ ⟨hHeld,(kr bK.out),(kr aW.out),(bk aA.out),(bk aD.out),(bl HB.out)⟩)
         ·skip
          refine box_step ?hg (N:=3) ?hd (cs:=#[.slice none 0 0,.slice none 0 0,.slice none 0 0]) (t:=28) ?hr ?_;(case hd=>rfl);(case hg=>rfl);(case hr=>(go_simp;done))
          intro aG hg cG hbox hb;have aE:=aM (hbox);have bO:=gF hg HB;have bP:=gF hg HB;have aJ:=nM hg aA;have aK:=nH hg aA;have aN:=nM hg aD;have aQ:=nH hg aD;replace bJ:=rK bJ hb;replace aW:=rK aW hb;replace aA:=rB aA hb;replace aD:=rB aD hb;replace HB:=rS HB hb;clear hb hbox hg;refine hK.out _ _ ⟨cI aA.out 0,cI aA.out 1,cI aA.out 2⟩ (fun hHeld=>?_)
          clear hK K;refine norm_ (a':=?_) ?_ ?_;rotate_left
          ·show Act.put _ (some 3) _=_
           simp only [Act.put,sA,sZ,sS,i64_w,i32_w]
           rfl
          exact norm_ (by (simp only [putAll,Act.put,sA,sZ,sS];done)) (hJ0_4_9 (bM,bN,aG) _ ⟨hHeld,(kr bJ.out),(kr aW.out),(bk aA.out),(bk aD.out),(bk aE.out),bO.out,bP.out,aJ.out,aK.out,aN.out,aQ.out,(bl HB.out)⟩)
       ·skip
        rintro ⟨bM,bX⟩ bY ⟨hS_,h0_,h1_,h2_,h3_⟩;have bK:Aside0 (Kd.R Kd.bool 4 bY w.heap.size (fun _=>True) bX bQ):=⟨h0_⟩
        replace aA:Aside0 (bY.heap[aC]?=some (.cells #[.slice aX aT.length bA,.slice bI aH.length bD,.slice bG aV.length bH] 28 (0,0))):=⟨h1_⟩;replace aD:Aside0 (bY.heap[aI]?=some (.cells #[.slice none 0 0,.slice none 0 0,.slice none 0 0] 28 (0,0))):=⟨h2_⟩;replace HB:Aside0 (Below w.heap.size w bY):=⟨h3_⟩;clear h0_ h1_ h2_ h3_;have hHeld:bY.cell? ⟨aC,0,none⟩=some (.slice aX aT.length bA)∧bY.cell? ⟨aC,1,none⟩=some (.slice bI aH.length bD)∧bY.cell? ⟨aC,2,none⟩=some (.slice bG aV.length bH):=hS_;refine norm_ (a':=?_) ?_ ?_;rotate_left
        ·simp only [putAll,Act.put,sA,sZ,sS]
         rfl
        refine two_ (i:=4) (j:=9) (Ni:=some 9) (Nj:=some 3) (bv 11 127) (bv 11 623) rfl rfl rfl rfl (two_of HT_.out (by kernel_rfl)) (by decide) (by decide) (fun K hK=>?_) (fun K hK=>?_)
        ·skip
         refine Kd.R_lit_step k72 _ 72 ?hg (N:=9) ?hd (xs:=([]:List (S72))) (inner:=[]) (ok:=fun _=>True) (okp:=fun _=>True) ?hr ?hp (fun _ hk=>hk) trivial (Below.refl _ _) (Nat.le_refl _) (by simp) ?_;(case hd=>rfl);(case hg=>rfl);(case hr=>(go_simp;done));(case hp=>exact (Reps.none _ _))
         intro bN cE ho12 hb hg_ hnew_;clear hg_ hnew_
         (rw [← cH.out] at ho12)
         have aW:=aM (Kd.R_lower ho12 (below_size (bl HB.out)));replace bK:=rK bK hb;replace aA:=rB aA hb;replace aD:=rB aD hb;replace HB:=rS HB hb;clear hb ho12;refine hK.out _ _ ⟨cI aA.out 0,cI aA.out 1,cI aA.out 2⟩ (fun hHeld=>?_)
         clear hK K;refine norm_ (a':=?_) ?_ ?_;rotate_left
         ·show Act.put _ (some 9) _=_
          simp only [Act.put,sA,sZ,sS,i64_w,i32_w]
          rfl
         exact norm_ (by (simp only [putAll,Act.put,sA,sZ,sS];done)) (hJ0_3_4 (bM,bX,bN) _ ⟨hHeld,(kr bK.out),(kr aW.out),(bk aA.out),(bk aD.out),(bl HB.out)⟩)
        ·skip
         refine box_step ?hg (N:=3) ?hd (cs:=#[.slice none 0 0,.slice none 0 0,.slice none 0 0]) (t:=28) ?hr ?_;(case hd=>rfl);(case hg=>rfl);(case hr=>(go_simp;done))
         intro aG hg cE hbox hb;have aE:=aM (hbox);have bO:=gF hg HB;have bP:=gF hg HB;have aJ:=nM hg aA;have aK:=nH hg aA;have aN:=nM hg aD;have aQ:=nH hg aD;replace bK:=rK bK hb;replace aA:=rB aA hb;replace aD:=rB aD hb;replace HB:=rS HB hb;clear hb hbox hg;refine hK.out _ _ ⟨cI aA.out 0,cI aA.out 1,cI aA.out 2⟩ (fun hHeld=>?_)
         clear hK K;refine norm_ (a':=?_) ?_ ?_;rotate_left
         ·show Act.put _ (some 3) _=_
          simp only [Act.put,sA,sZ,sS,i64_w,i32_w]
          rfl
         exact norm_ (by (simp only [putAll,Act.put,sA,sZ,sS];done)) (hJ0_3_9 (bM,bX,aG) _ ⟨hHeld,(kr bK.out),(bk aA.out),(bk aD.out),(bk aE.out),bO.out,bP.out,aJ.out,aK.out,aN.out,aQ.out,(bl HB.out)⟩)
      ·skip
       rintro ⟨bM,bN,aG⟩ cG ⟨hS_,h0_,h1_,h2_,h3_,h4_,h5_,h6_,h7_,h8_,h9_,h10_,h11_⟩;have bJ:Aside0 (Kd.R Kd.bool 4 cG w.heap.size (fun _=>True) bM cC):=⟨h0_⟩
       have aW:Aside0 (Kd.R k72 72 cG w.heap.size (fun _=>True) bN bZ):=⟨h1_⟩
       have aE:Aside0 (cG.heap[aG]?=some (.cells #[.slice none 0 0,.slice none 0 0,.slice none 0 0] 28 (0,0))):=⟨h4_⟩;have bO:Aside0 (w.heap.size≤aG):=⟨h5_⟩;have bP:Aside0 (w.heap.size≤aG):=⟨h6_⟩;have aJ:Aside0 (aC≠aG):=⟨h7_⟩;have aK:Aside0 (aG≠aC):=⟨h8_⟩;have aN:Aside0 (aI≠aG):=⟨h9_⟩;have aQ:Aside0 (aG≠aI):=⟨h10_⟩;replace aA:Aside0 (cG.heap[aC]?=some (.cells #[.slice aX aT.length bA,.slice bI aH.length bD,.slice bG aV.length bH] 28 (0,0))):=⟨h2_⟩;replace aD:Aside0 (cG.heap[aI]?=some (.cells #[.slice none 0 0,.slice none 0 0,.slice none 0 0] 28 (0,0))):=⟨h3_⟩;replace HB:Aside0 (Below w.heap.size w cG):=⟨h11_⟩;clear h0_ h1_ h2_ h3_ h4_ h5_ h6_ h7_ h8_ h9_ h10_ h11_;have hHeld:cG.cell? ⟨aC,0,none⟩=some (.slice aX aT.length bA)∧cG.cell? ⟨aC,1,none⟩=some (.slice bI aH.length bD)∧cG.cell? ⟨aC,2,none⟩=some (.slice bG aV.length bH):=hS_;refine norm_ (a':=?_) ?_ ?_;rotate_left
       ·simp only [putAll,Act.put,sA,sZ,sS]
        rfl
       refine one_ (i:=3) (N:=some 8) (bv 11 639) rfl rfl (one_of HT_.out (by kernel_rfl)) (by decide) (fun K hK=>?_)
       refine Kd.R_append_rows_step Kd.bool (w0:=w) w.heap.size (by rfl) (.tmp 5) (.tmp 7) 24 4 (.bool false) 1 rfl Try.underlying24 info4 rfl (by decide) (by omega) bM cC aT _ _ _ (fun _=>True) (fun _=>False) rfl rfl ?aO ?aR (fun _ _ h=>h) (fun _ h=>h.elim) ?aF ?aB ?aS ?aL ?_
       (case aR=>repeat (exact (cB dM.out HB.out)))
       (case aB=>exact (bl HB.out))
       (case aF=>exact (fun _ _=>trivial))
       (case aO=>exact (kr bJ.out))
       (case aS=>exact (below_size (bl HB.out)))
       (case aL=>have:=LMc2.out;omega)
       intro bX cY ho hb hg hat;rw [← dN.out] at ho
       have bK:=aM (ho);replace aA:=aM (blk_grown (bk aA.out) hg (Kd.R_ne bJ.out aA.out (by decide)))
       replace aD:=aM (blk_grown (bk aD.out) hg (Kd.R_ne bJ.out aD.out (by decide)))
       replace aW:=aM (Kd.R_over' (kr aW.out) (Kd.R_typed (kr bJ.out)) (by decide) hg)
       replace aE:=aM (blk_grown (bk aE.out) hg (Kd.R_ne bJ.out aE.out (by decide)))
       replace HB:=aM (hb);clear bJ;clear ho hb hg hat;refine hK.out _ _ ⟨cI aA.out 0,cI aA.out 1,cI aA.out 2⟩ (fun hHeld=>?_)
       clear hK K;refine norm_ (a':=?_) ?_ ?_;rotate_left
       ·show Act.put _ (some 8) _=_
        simp only [Act.put,sA,sZ,sS,i64_w,i32_w]
        rfl
       exact norm_ (by (simp only [putAll,Act.put,sA,sZ,sS];done)) (hJ0_3_4_9 (bM,bX,bN,aG) _ ⟨hHeld,(kr bK.out),(kr aW.out),(bk aA.out),(bk aD.out),(bk aE.out),bO.out,bP.out,aJ.out,aK.out,aN.out,aQ.out,(bl HB.out)⟩)
     ·skip
      rintro ⟨bM,bX,aG⟩ cE ⟨hS_,h0_,h1_,h2_,h3_,h4_,h5_,h6_,h7_,h8_,h9_,h10_⟩;have bK:Aside0 (Kd.R Kd.bool 4 cE w.heap.size (fun _=>True) bX bQ):=⟨h0_⟩
      have aE:Aside0 (cE.heap[aG]?=some (.cells #[.slice none 0 0,.slice none 0 0,.slice none 0 0] 28 (0,0))):=⟨h3_⟩;have bO:Aside0 (w.heap.size≤aG):=⟨h4_⟩;have bP:Aside0 (w.heap.size≤aG):=⟨h5_⟩;have aJ:Aside0 (aC≠aG):=⟨h6_⟩;have aK:Aside0 (aG≠aC):=⟨h7_⟩;have aN:Aside0 (aI≠aG):=⟨h8_⟩;have aQ:Aside0 (aG≠aI):=⟨h9_⟩;replace aA:Aside0 (cE.heap[aC]?=some (.cells #[.slice aX aT.length bA,.slice bI aH.length bD,.slice bG aV.length bH] 28 (0,0))):=⟨h1_⟩;replace aD:Aside0 (cE.heap[aI]?=some (.cells #[.slice none 0 0,.slice none 0 0,.slice none 0 0] 28 (0,0))):=⟨h2_⟩;replace HB:Aside0 (Below w.heap.size w cE):=⟨h10_⟩;clear h0_ h1_ h2_ h3_ h4_ h5_ h6_ h7_ h8_ h9_ h10_;have hHeld:cE.cell? ⟨aC,0,none⟩=some (.slice aX aT.length bA)∧cE.cell? ⟨aC,1,none⟩=some (.slice bI aH.length bD)∧cE.cell? ⟨aC,2,none⟩=some (.slice bG aV.length bH):=hS_;refine norm_ (a':=?_) ?_ ?_;rotate_left
      ·simp only [putAll,Act.put,sA,sZ,sS]
       rfl
      refine one_ (i:=4) (N:=some 9) (bv 11 639) rfl rfl (one_of HT_.out (by kernel_rfl)) (by decide) (fun K hK=>?_)
      refine Kd.R_lit_step k72 _ 72 ?hg (N:=9) ?hd (xs:=([]:List (S72))) (inner:=[]) (ok:=fun _=>True) (okp:=fun _=>True) ?hr ?hp (fun _ hk=>hk) trivial (Below.refl _ _) (Nat.le_refl _) (by simp) ?_;(case hd=>rfl);(case hg=>rfl);(case hr=>(go_simp;done));(case hp=>exact (Reps.none _ _))
      intro bN cG ho13 hb hg_ hnew_;clear hg_ hnew_
      (rw [← cH.out] at ho13)
      have aW:=aM (Kd.R_lower ho13 (below_size (bl HB.out)));replace bK:=rK bK hb;replace aA:=rB aA hb;replace aD:=rB aD hb;replace aE:=rB aE hb;replace HB:=rS HB hb;clear hb ho13;refine hK.out _ _ ⟨cI aA.out 0,cI aA.out 1,cI aA.out 2⟩ (fun hHeld=>?_)
      clear hK K;refine norm_ (a':=?_) ?_ ?_;rotate_left
      ·show Act.put _ (some 9) _=_
       simp only [Act.put,sA,sZ,sS,i64_w,i32_w]
       rfl
      exact norm_ (by (simp only [putAll,Act.put,sA,sZ,sS];done)) (hJ0_3_4_9 (bM,bX,bN,aG) _ ⟨hHeld,(kr bK.out),(kr aW.out),(bk aA.out),(bk aD.out),(bk aE.out),bO.out,bP.out,aJ.out,aK.out,aN.out,aQ.out,(bl HB.out)⟩)
    ·skip
     rintro ⟨bM,bX,bN⟩ cG ⟨hS_,h0_,h1_,h2_,h3_,h4_⟩;have bK:Aside0 (Kd.R Kd.bool 4 cG w.heap.size (fun _=>True) bX bQ):=⟨h0_⟩
     have aW:Aside0 (Kd.R k72 72 cG w.heap.size (fun _=>True) bN bZ):=⟨h1_⟩
     replace aA:Aside0 (cG.heap[aC]?=some (.cells #[.slice aX aT.length bA,.slice bI aH.length bD,.slice bG aV.length bH] 28 (0,0))):=⟨h2_⟩;replace aD:Aside0 (cG.heap[aI]?=some (.cells #[.slice none 0 0,.slice none 0 0,.slice none 0 0] 28 (0,0))):=⟨h3_⟩;replace HB:Aside0 (Below w.heap.size w cG):=⟨h4_⟩;clear h0_ h1_ h2_ h3_ h4_;have hHeld:cG.cell? ⟨aC,0,none⟩=some (.slice aX aT.length bA)∧cG.cell? ⟨aC,1,none⟩=some (.slice bI aH.length bD)∧cG.cell? ⟨aC,2,none⟩=some (.slice bG aV.length bH):=hS_;refine norm_ (a':=?_) ?_ ?_;rotate_left
     ·simp only [putAll,Act.put,sA,sZ,sS]
      rfl
     refine two_ (i:=7) (j:=9) (Ni:=some 12) (Nj:=some 3) (bv 11 255) (bv 11 639) rfl rfl rfl rfl (two_of HT_.out (by kernel_rfl)) (by decide) (by decide) (fun K hK=>?_) (fun K hK=>?_)
     ·skip
      refine Kd.R_append_rows_step k72 (w0:=w) w.heap.size (by rfl) (.tmp 9) (.tmp 11) 26 72 (.agg #[(.int .i64 0),(.int .i64 0),(.int .i64 0),(.int .i64 0)]) 32 rfl Try.underlying26 info72 rfl (by decide) (by omega) bN bZ aV _ _ _ (fun _=>True) (fun _=>False) rfl rfl ?aO ?aR (fun _ _ h=>h) (fun _ h=>h.elim) ?aF ?aB ?aS ?aL ?_
      (case aR=>repeat (exact (cB eM.out HB.out)))
      (case aB=>exact (bl HB.out))
      (case aF=>exact (fun _ _=>trivial))
      (case aO=>exact (kr aW.out))
      (case aS=>exact (below_size (bl HB.out)))
      (case aL=>have:=LMc3.out;omega)
      intro dP cY ho hb hg hat;rw [← eP.out] at ho
      have cD:=aM (ho);replace aA:=aM (blk_grown (bk aA.out) hg (Kd.R_ne aW.out aA.out (by decide)))
      replace aD:=aM (blk_grown (bk aD.out) hg (Kd.R_ne aW.out aD.out (by decide)))
      replace bK:=aM (Kd.R_over' (kr bK.out) (Kd.R_typed (kr aW.out)) (by decide) hg)
      replace HB:=aM (hb);clear aW;clear ho hb hg hat;obtain ⟨fL,fM,eW⟩:=Kd.R_slice cD.out
      (subst eW)
      obtain ⟨eC,eD,dQ⟩:=Kd.R_slice bK.out
      (subst dQ)
      refine hK.out _ _ ⟨cI aA.out 0,cI aA.out 1,cI aA.out 2⟩ (fun hHeld=>?_)
      clear hK K;refine norm_ (a':=?_) ?_ ?_;rotate_left
      ·show Act.put _ (some 12) _=_
       simp only [Act.put,sA,sZ,sS,i64_w,i32_w]
       rfl
      refine pZ 8 13 (bv 11 511) HT_ ?_;exact norm_ (by (simp only [putAll,Act.put,sA,sZ,sS];done)) (hJ0_3_4_7 (bM,.slice eC bQ.length eD,bN,.slice fL cA.length fM) _ ⟨hHeld,(kr bK.out),(kr cD.out),(bk aA.out),(bk aD.out),(bl HB.out)⟩)
     ·skip
      refine box_step ?hg (N:=3) ?hd (cs:=#[.slice none 0 0,.slice none 0 0,.slice none 0 0]) (t:=28) ?hr ?_;(case hd=>rfl);(case hg=>rfl);(case hr=>(go_simp;done))
      intro aG hg cY hbox hb;have aE:=aM (hbox);have bO:=gF hg HB;have bP:=gF hg HB;have aJ:=nM hg aA;have aK:=nH hg aA;have aN:=nM hg aD;have aQ:=nH hg aD;replace bK:=rK bK hb;replace aW:=rK aW hb;replace aA:=rB aA hb;replace aD:=rB aD hb;replace HB:=rS HB hb;clear hb hbox hg;refine hK.out _ _ ⟨cI aA.out 0,cI aA.out 1,cI aA.out 2⟩ (fun hHeld=>?_)
      clear hK K;refine norm_ (a':=?_) ?_ ?_;rotate_left
      ·show Act.put _ (some 3) _=_
       simp only [Act.put,sA,sZ,sS,i64_w,i32_w]
       rfl
      exact norm_ (by (simp only [putAll,Act.put,sA,sZ,sS];done)) (hJ0_3_4_9 (bM,bX,bN,aG) _ ⟨hHeld,(kr bK.out),(kr aW.out),(bk aA.out),(bk aD.out),(bk aE.out),bO.out,bP.out,aJ.out,aK.out,aN.out,aQ.out,(bl HB.out)⟩)
   ·skip
    rintro ⟨bM,bX,bN,aG⟩ cY ⟨hS_,h0_,h1_,h2_,h3_,h4_,h5_,h6_,h7_,h8_,h9_,h10_,h11_⟩;have bK:Aside0 (Kd.R Kd.bool 4 cY w.heap.size (fun _=>True) bX bQ):=⟨h0_⟩
    have aW:Aside0 (Kd.R k72 72 cY w.heap.size (fun _=>True) bN bZ):=⟨h1_⟩
    have aE:Aside0 (cY.heap[aG]?=some (.cells #[.slice none 0 0,.slice none 0 0,.slice none 0 0] 28 (0,0))):=⟨h4_⟩;have bO:Aside0 (w.heap.size≤aG):=⟨h5_⟩;have bP:Aside0 (w.heap.size≤aG):=⟨h6_⟩;have aJ:Aside0 (aC≠aG):=⟨h7_⟩;have aK:Aside0 (aG≠aC):=⟨h8_⟩;have aN:Aside0 (aI≠aG):=⟨h9_⟩;have aQ:Aside0 (aG≠aI):=⟨h10_⟩;replace aA:Aside0 (cY.heap[aC]?=some (.cells #[.slice aX aT.length bA,.slice bI aH.length bD,.slice bG aV.length bH] 28 (0,0))):=⟨h2_⟩;replace aD:Aside0 (cY.heap[aI]?=some (.cells #[.slice none 0 0,.slice none 0 0,.slice none 0 0] 28 (0,0))):=⟨h3_⟩;replace HB:Aside0 (Below w.heap.size w cY):=⟨h11_⟩;clear h0_ h1_ h2_ h3_ h4_ h5_ h6_ h7_ h8_ h9_ h10_ h11_;have hHeld:cY.cell? ⟨aC,0,none⟩=some (.slice aX aT.length bA)∧cY.cell? ⟨aC,1,none⟩=some (.slice bI aH.length bD)∧cY.cell? ⟨aC,2,none⟩=some (.slice bG aV.length bH):=hS_;refine norm_ (a':=?_) ?_ ?_;rotate_left
    ·simp only [putAll,Act.put,sA,sZ,sS]
     rfl
    refine one_ (i:=7) (N:=some 12) (bv 11 767) rfl rfl (one_of HT_.out (by kernel_rfl)) (by decide) (fun K hK=>?_)
    refine Kd.R_append_rows_step k72 (w0:=w) w.heap.size (by rfl) (.tmp 9) (.tmp 11) 26 72 (.agg #[(.int .i64 0),(.int .i64 0),(.int .i64 0),(.int .i64 0)]) 32 rfl Try.underlying26 info72 rfl (by decide) (by omega) bN bZ aV _ _ _ (fun _=>True) (fun _=>False) rfl rfl ?aO ?aR (fun _ _ h=>h) (fun _ h=>h.elim) ?aF ?aB ?aS ?aL ?_
    (case aR=>repeat (exact (cB eM.out HB.out)))
    (case aB=>exact (bl HB.out))
    (case aF=>exact (fun _ _=>trivial))
    (case aO=>exact (kr aW.out))
    (case aS=>exact (below_size (bl HB.out)))
    (case aL=>have:=LMc3.out;omega)
    intro dP iA ho hb hg hat;rw [← eP.out] at ho
    have cD:=aM (ho);replace aA:=aM (blk_grown (bk aA.out) hg (Kd.R_ne aW.out aA.out (by decide)))
    replace aD:=aM (blk_grown (bk aD.out) hg (Kd.R_ne aW.out aD.out (by decide)))
    replace bK:=aM (Kd.R_over' (kr bK.out) (Kd.R_typed (kr aW.out)) (by decide) hg)
    replace aE:=aM (blk_grown (bk aE.out) hg (Kd.R_ne aW.out aE.out (by decide)))
    replace HB:=aM (hb);clear aW;clear ho hb hg hat;obtain ⟨eC,eD,dQ⟩:=Kd.R_slice cD.out
    (subst dQ)
    obtain ⟨eE,eF,dR⟩:=Kd.R_slice bK.out
    (subst dR)
    refine hK.out _ _ ⟨cI aA.out 0,cI aA.out 1,cI aA.out 2⟩ (fun hHeld=>?_)
    clear hK K;refine norm_ (a':=?_) ?_ ?_;rotate_left
    ·show Act.put _ (some 12) _=_
     simp only [Act.put,sA,sZ,sS,i64_w,i32_w]
     rfl
    refine pZ 8 13 (bv 11 1023) HT_ ?_;exact norm_ (by (simp only [putAll,Act.put,sA,sZ,sS];done)) (hJ0_3_4_7_9 (bM,.slice eE bQ.length eF,bN,.slice eC cA.length eD,aG) _ ⟨hHeld,(kr bK.out),(kr cD.out),(bk aA.out),(bk aD.out),(bk aE.out),bO.out,bP.out,aJ.out,aK.out,aN.out,aQ.out,(bl HB.out)⟩)
  ·skip
   rintro ⟨bM,bX,bN,dP⟩ dL ⟨hS_,h0_,h1_,h2_,h3_,h4_⟩;have bK:Aside0 (Kd.R Kd.bool 4 dL w.heap.size (fun _=>True) bX bQ):=⟨h0_⟩
   have cD:Aside0 (Kd.R k72 72 dL w.heap.size (fun _=>True) dP cA):=⟨h1_⟩
   replace aA:Aside0 (dL.heap[aC]?=some (.cells #[.slice aX aT.length bA,.slice bI aH.length bD,.slice bG aV.length bH] 28 (0,0))):=⟨h2_⟩;replace aD:Aside0 (dL.heap[aI]?=some (.cells #[.slice none 0 0,.slice none 0 0,.slice none 0 0] 28 (0,0))):=⟨h3_⟩;replace HB:Aside0 (Below w.heap.size w dL):=⟨h4_⟩;clear h0_ h1_ h2_ h3_ h4_;have hHeld:dL.cell? ⟨aC,0,none⟩=some (.slice aX aT.length bA)∧dL.cell? ⟨aC,1,none⟩=some (.slice bI aH.length bD)∧dL.cell? ⟨aC,2,none⟩=some (.slice bG aV.length bH):=hS_;obtain ⟨eE,eF,dR⟩:=Kd.R_slice cD.out
   (subst dR)
   obtain ⟨cK,cL,dS⟩:=Kd.R_slice bK.out
   (subst dS)
   refine norm_ (a':=?_) ?_ ?_;rotate_left
   ·simp only [putAll,Act.put,sA,sZ,sS]
    rfl
   refine one_ (i:=9) (N:=some 3) (bv 11 1023) rfl rfl (one_of HT_.out (by kernel_rfl)) (by decide) (fun K hK=>?_)
   refine box_step ?hg (N:=3) ?hd (cs:=#[.slice none 0 0,.slice none 0 0,.slice none 0 0]) (t:=28) ?hr ?_;(case hd=>rfl);(case hg=>rfl);(case hr=>(go_simp;done))
   intro aG hg iB hbox hb;have aE:=aM (hbox);have bO:=gF hg HB;have bP:=gF hg HB;have aJ:=nM hg aA;have aK:=nH hg aA;have aN:=nM hg aD;have aQ:=nH hg aD;replace bK:=rK bK hb;replace cD:=rK cD hb;replace aA:=rB aA hb;replace aD:=rB aD hb;replace HB:=rS HB hb;clear hb hbox hg;refine hK.out _ _ ⟨cI aA.out 0,cI aA.out 1,cI aA.out 2⟩ (fun hHeld=>?_)
   clear hK K;refine norm_ (a':=?_) ?_ ?_;rotate_left
   ·show Act.put _ (some 3) _=_
    simp only [Act.put,sA,sZ,sS,i64_w,i32_w]
    rfl
   exact norm_ (by (simp only [putAll,Act.put,sA,sZ,sS];done)) (hJ0_3_4_7_9 (bM,.slice cK bQ.length cL,bN,.slice eE cA.length eF,aG) _ ⟨hHeld,(kr bK.out),(kr cD.out),(bk aA.out),(bk aD.out),(bk aE.out),bO.out,bP.out,aJ.out,aK.out,aN.out,aQ.out,(bl HB.out)⟩)
 rintro ⟨bM,bX,bN,dP,aG⟩ dE ⟨hS_,h0_,h1_,h2_,h3_,h4_,h5_,h6_,h7_,h8_,h9_,h10_,h11_⟩;have bK:Aside0 (Kd.R Kd.bool 4 dE w.heap.size (fun _=>True) bX bQ):=⟨h0_⟩
 have cD:Aside0 (Kd.R k72 72 dE w.heap.size (fun _=>True) dP cA):=⟨h1_⟩
 have aE:Aside0 (dE.heap[aG]?=some (.cells #[.slice none 0 0,.slice none 0 0,.slice none 0 0] 28 (0,0))):=⟨h4_⟩;have bO:Aside0 (w.heap.size≤aG):=⟨h5_⟩;have bP:Aside0 (w.heap.size≤aG):=⟨h6_⟩;have aJ:Aside0 (aC≠aG):=⟨h7_⟩;have aK:Aside0 (aG≠aC):=⟨h8_⟩;have aN:Aside0 (aI≠aG):=⟨h9_⟩;have aQ:Aside0 (aG≠aI):=⟨h10_⟩;replace aA:Aside0 (dE.heap[aC]?=some (.cells #[.slice aX aT.length bA,.slice bI aH.length bD,.slice bG aV.length bH] 28 (0,0))):=⟨h2_⟩;replace aD:Aside0 (dE.heap[aI]?=some (.cells #[.slice none 0 0,.slice none 0 0,.slice none 0 0] 28 (0,0))):=⟨h3_⟩;replace HB:Aside0 (Below w.heap.size w dE):=⟨h11_⟩;clear h0_ h1_ h2_ h3_ h4_ h5_ h6_ h7_ h8_ h9_ h10_ h11_;have hHeld:dE.cell? ⟨aC,0,none⟩=some (.slice aX aT.length bA)∧dE.cell? ⟨aC,1,none⟩=some (.slice bI aH.length bD)∧dE.cell? ⟨aC,2,none⟩=some (.slice bG aV.length bH):=hS_;obtain ⟨cK,cL,dS⟩:=Kd.R_slice cD.out
 (subst dS)
 obtain ⟨cT,cU,eX⟩:=Kd.R_slice bK.out
 (subst eX)
 refine norm_ (a':=?_) ?_ ?_;rotate_left
 ·simp only [putAll,Act.put,sA,sZ,sS]
  rfl
 refine one_ (i:=10) (N:=none) (bv 11 2047) rfl rfl (one_of HT_.out (by kernel_rfl)) (by decide) (fun K hK=>?_)
 have hH:=cI aE.out 0;have hfs19:=bF aE.out 0;have hJ:=cI aE.out 1;have hfs20:=bF aE.out 1;have hO:=cI aE.out 2;have hfs21:=bF aE.out 2;refine skip_ (w1:=?_) (by rfl) rfl ?_ ?_
 rotate_left
 ·go_simp
  rfl
 refine hK.out _ _ ⟨(cm (hHeld.1)),(cm (hHeld.2.1)),(cm (hHeld.2.2))⟩ (fun hHeld=>?_)
 clear hK K;refine done_ (done_of HT_.out (by kernel_rfl)) ?_
 try go_wp2
 go_loopg [4] k (fun kq v4 w'=>∃ (bT:Int) (bU:List (S42)) (u671001:Value),v4=.int .i64 bT∧Aside0 (Z12.l0 kq bT aT aH aV bQ bU cA=some (r1,r2,r3))∧Aside0 (kq≤k)∧Aside0 (Kd.R Kd.bool 4 w' w.heap.size (fun _=>True) (.slice cT bQ.length cU) bQ)∧Aside0 (Kd.S k42 42 w' w.heap.size (fun _=>True) u671001 bU)∧Aside0 (Kd.R k72 72 w' w.heap.size (fun _=>True) (.slice cK cA.length cL) cA)∧Aside0 (w'.heap[aC]?=some (.cells #[(.slice aX aT.length bA),(.slice bI aH.length bD),(.slice bG aV.length bH)] 28 (0,0)))∧Aside0 (w'.heap[aI]?=some (.cells #[(.slice none 0 0),(.slice none 0 0),(.slice none 0 0)] 28 (0,0)))∧Aside0 (w'.heap[aG]?=some (.cells #[(.slice cT bQ.length cU),u671001,(.slice cK cA.length cL)] 28 (0,0)))∧Aside0 (Below w.heap.size w w'))
 case atStart=>exact ⟨(0),(([]:List (S42))),(.slice none 0 0),xE,H',⟨Nat.le_refl _⟩,⟨kr (Kd.R_mono (rT3 bK.out aE.out (.slice cT bQ.length cU) (.slice none 0 0) (.slice cK cA.length cL)) (fun _ hk=>trivial))⟩,⟨by exact Kd.S_nil _ _ _ _ _⟩,⟨kr (Kd.R_mono (rT3 cD.out aE.out (.slice cT bQ.length cU) (.slice none 0 0) (.slice cK cA.length cL)) (fun _ hk=>trivial))⟩,⟨fm aA.out⟩,⟨fm aD.out⟩,⟨bm aE.out⟩,⟨bl HB.out⟩⟩
 case round =>
  clear H'
  repeat first|clear c2|clear p2|clear c3
  obtain ⟨bT,bU,u671001,rfl,HA,fK,bV,bL,bW,aA,aD,aE,HB⟩:=hrel;cases gk with
  | zero=>exact absurd HA.out (by simp [Z12.l0])
  | succ k1 =>
   have H:=HA.out;clear HA;simp only [Z12.l0] at H
   by_cases dU:bT<(aH.length:Int)
   case neg =>
    rw [if_neg dU] at H
    have fC:=decide_eq_false dU;clear dU;simp only [Option.some.injEq,Prod.mk.injEq] at H;obtain ⟨rfl,rfl,rfl⟩:=H;have gO:=cA3 aA.out;have gR:=cA3 aE.out;have gS:=cA3 aD.out;obtain ⟨dW,dX,fN⟩:=Kd.S_slice bL.out;subst fN;go_wp2
    refine bodyPost_ret (results_cell_row rfl _ _ aI 28 #[.slice cT bQ.length cU,.slice dW bU.length dX,.slice cK cA.length cL] (0,0) _ rfl (bm aD.out) Try.underlying28 rfl (by kernel_rfl)) rfl ?_
    exact ⟨_,_,_,xW,by (with_reducible repeat (first|apply Kd.R_alloc|apply Kd.R_drewN|apply Kd.R_drew));exact Kd.R_mono (rT3 bV.out aD.out (.slice cT bQ.length cU) (.slice dW bU.length dX) (.slice cK cA.length cL)) (fun _ hk=>trivial),ks (Kd.S_mono (sT3 bL.out aD.out (.slice cT bQ.length cU) (.slice dW bU.length dX) (.slice cK cA.length cL)) (fun _ hk=>trivial)),by (with_reducible repeat (first|apply Kd.R_alloc|apply Kd.R_drewN|apply Kd.R_drew));exact Kd.R_mono (rT3 bW.out aD.out (.slice cT bQ.length cU) (.slice dW bU.length dX) (.slice cK cA.length cL)) (fun _ hk=>trivial),bl HB.out⟩
   rw [if_pos dU] at H
   have fC:=decide_eq_true dU;clear dU;obtain ⟨gT,H⟩:=gI H;obtain ⟨eG,eQ,H⟩:=hS H;have eR:=aM eQ;clear eQ
   by_cases eS:eG.length+((rd_T42 aH bT).f1).length<17592186044416
   case neg =>
    rw [if_neg eS] at H
    exact absurd H (by simp)
   rw [if_pos eS] at H
   have LMc24:=aM eS;clear eS;obtain ⟨dH,dF⟩:∃ y_:List Int,y_=(eG++((rd_T42 aH bT).f1)):=⟨_,rfl⟩;replace H:(if bU.length<4398046511104 then (Z12.l0 k1 (wS bT) aT aH aV bQ (bU++[(⟨(rd_T42 aH bT).f0,dH⟩:S42)]) cA) else (none))=some (r1,r2,r3):=by (rw [dF];with_reducible exact H)
   have fD:=aM dF;clear dF
   by_cases eT:bU.length<4398046511104
   case neg =>
    rw [if_neg eT] at H
    exact absurd H (by simp)
   rw [if_pos eT] at H
   have LMc25:=aM eT;clear eT;obtain ⟨dI,dG⟩:∃ y_:List (S42),y_=(bU++[(⟨(rd_T42 aH bT).f0,dH⟩:S42)]):=⟨_,rfl⟩;replace H:(Z12.l0 k1 (wS bT) aT aH aV bQ dI cA)=some (r1,r2,r3):=by (rw [dG];with_reducible exact H)
   have fE:=aM dG;clear dG;have H':=aM H;clear H;have gY:=cA3 aA.out
   try go_wp2
   replace bV:=aM (Kd.R_drew bV.out);replace bL:=aM (Kd.S_drew bL.out);replace bW:=aM (Kd.R_drew bW.out);replace aA:=aM (blk_drew aA.out);replace aD:=aM (blk_drew aD.out);replace aE:=aM (blk_drew aE.out);replace HB:=aM (below_drew1 HB.out);have eH:0≤(bT:Int):=dT;have eI:bT<(aH.length:Int):=dT;obtain ⟨cS,eA,eB,fO,dA,cV,hl671_1,hi671_1⟩:=at_T42 eL.out bT eH eI;have cN:=cV;have cO:=dA;cases fO
   replace dA:=xB HB dA;replace cV:=xB HB cV;clear hi671_1 hl671_1;replace eH:=eq_true eH;replace eI:=eq_true eI;have eJ:0≤(bT:Int):=dT;have eK:bT<(aH.length:Int):=dT;obtain ⟨fF,fU,fV,fP,dB,cW,hl675_1,hi675_1⟩:=at_T42 eL.out bT eJ eK;have cP:=cW;have cQ:=dB;obtain rfl:cS=fF:=(by injection fP)
   replace dB:=xB HB dB;replace cW:=xB HB cW;have dV:=aM hi675_1;clear hi675_1 hl675_1;replace eJ:=eq_true eJ;replace eK:=eq_true eK;have ea_:=Option.some.inj (cV.symm.trans cW)
   injection ea_ with ea_ en_ ec_
   subst ea_;subst ec_;clear en_;refine start_ (n:=21) (S:=fun w'=>cT3 w' aG (.slice cT bQ.length cU) (u671001) (.slice cK cA.length cL) (cT3 w' aC (.slice aX aT.length bA) (.slice (some cS) aH.length bD) (.slice bG aV.length bH) (w'.cell? (cS.add ((bT).toNat*2))=some ((rd_T42 aH bT).f0)∧w'.cell? ⟨(cS.add ((bT).toNat*2)).block,(cS.add ((bT).toNat*2)).off+1,none⟩=some (.slice eA ((rd_T42 aH bT).f1).length eB)∧w'.cell? (cS.add ((bT).toNat*2))=some ((rd_T42 aH bT).f0)∧w'.cell? ⟨(cS.add ((bT).toNat*2)).block,(cS.add ((bT).toNat*2)).off+1,none⟩=some (.slice eA ((rd_T42 aH bT).f1).length eB)))) (ds:=[20]) (dn 21 0) (by kernel_rfl) rfl rfl ⟨cI aE.out 0,cI aE.out 1,cI aE.out 2,cI aA.out 0,cI aA.out 1,cI aA.out 2,(xB HB cO :),(xB HB cN :),(xB HB cQ :),(xB HB cP :)⟩ (fun hHeld=>?_);refine with_tabW Z12.tab5 Z12.bits5 (fun HT_ HW_=>?_)
   generalize wr.drew=iC at bV bL bW aA aD aE HB  dV dA cV dB cW hHeld ⊢
   refine nY (N:=some 21) HT_ ?_;refine pZ 2 23 (bv 21 5) HT_ ?_;refine pZ 4 25 (bv 21 21) HT_ ?_;refine pZ 9 30 (bv 21 533) HT_ ?_;refine pZ 11 32 (bv 21 2581) HT_ ?_;refine aZ 1 22 (bv 21 2583) HT_ HW_ hHeld ?_;refine aZ 3 24 (bv 21 2591) HT_ HW_ hHeld ?_;refine pZ 5 26 (bv 21 2623) HT_ ?_;refine pZ 6 27 (bv 21 2687) HT_ ?_;refine aZ 7 28 (bv 21 2815) HT_ HW_ hHeld ?_;refine aZ 10 31 (bv 21 3839) HT_ HW_ hHeld ?_;refine pZ 12 33 (bv 21 7935) HT_ ?_;refine pZ 13 34 (bv 21 16127) HT_ ?_;refine aZ 14 35 (bv 21 32511) HT_ HW_ hHeld ?_;refine one_ (i:=8) (N:=some 29) (bv 21 32767) rfl rfl (one_of HT_.out (by kernel_rfl)) (by decide) (fun K hK=>?_)
   refine Kd.R_lit_step (Kd.int .i64) _ 3 ?hg (N:=29) ?hd (xs:=([]:List Int)) (inner:=[]) (ok:=fun _=>True) (okp:=fun _=>True) ?hr ?hp (fun _ hk=>hk) trivial (Below.refl _ _) (Nat.le_refl _) (by simp) ?_;(case hd=>rfl);(case hg=>rfl);(case hr=>(go_simp;done));(case hp=>exact (Reps.none _ _))
   intro fQ iD ho31 hb hg_ hnew_;clear hg_ hnew_
   (rw [← eR.out] at ho31)
   have cX:=aM (Kd.R_lower ho31 (below_size (bl HB.out)));replace bV:=rK bV hb;replace bL:=aM (Kd.S_elder' (ks bL.out) (Kd.R_base ho31) hb);replace bW:=rK bW hb;replace aA:=rB aA hb;replace aD:=rB aD hb;replace aE:=rB aE hb;replace HB:=rS HB hb;clear hb ho31;refine hK.out _ _ ⟨cI aE.out 0,cI aE.out 1,cI aE.out 2,cI aA.out 0,cI aA.out 1,cI aA.out 2,(xB HB cO :),(xB HB cN :),(xB HB cQ :),(xB HB cP :)⟩ (fun hHeld=>?_)
   clear hK K;refine norm_ (a':=?_) ?_ ?_;rotate_left
   ·show Act.put _ (some 29) _=_
    simp only [Act.put,sA,sZ,sS,i64_w,i32_w]
    rfl
   refine one_ (i:=15) (N:=some 36) (bv 21 65535) rfl rfl (one_of HT_.out (by kernel_rfl)) (by decide) (fun K hK=>?_)
   refine Kd.R_append_rows_step (Kd.int .i64) (w0:=w) w.heap.size (by rfl) (.tmp 29) (.tmp 35) 40 3 (.int .i64 0) 8 rfl Try.underlying40 info3 rfl (by decide) (by omega) fQ eG ((rd_T42 aH bT).f1) _ _ _ (fun _=>True) (fun _=>False) rfl rfl ?aO ?aR (fun _ _ h=>h) (fun _ h=>h.elim) ?aF ?aB ?aS ?aL ?_
   (case aR=>repeat (exact (cB dV.out HB.out)))
   (case aB=>exact (bl HB.out))
   (case aF=>exact (fun _ _=>trivial))
   (case aO=>exact (kr cX.out))
   (case aS=>exact (below_size (bl HB.out)))
   (case aL=>have:=LMc24.out;omega)
   intro hU iE ho hb hg hat;rw [← fD.out] at ho
   have dO:=aM (ho);replace bV:=aM (Kd.R_over' (kr bV.out) (Kd.R_typed (kr cX.out)) (by decide) hg)
   replace bL:=aM (Kd.S_after (ok:=(fun _=>True)) (ks bL.out) hg hat)
   replace bW:=aM (Kd.R_over' (kr bW.out) (Kd.R_typed (kr cX.out)) (by decide) hg)
   replace aA:=aM (blk_grown (bk aA.out) hg (Kd.R_ne cX.out aA.out (by decide)))
   replace aD:=aM (blk_grown (bk aD.out) hg (Kd.R_ne cX.out aD.out (by decide)))
   replace aE:=aM (blk_grown (bk aE.out) hg (Kd.R_ne cX.out aE.out (by decide)))
   replace HB:=aM (hb);clear cX;clear ho hb hg hat;obtain ⟨eY,eZ,fA⟩:=Kd.R_slice dO.out
   (subst fA)
   refine hK.out _ _ ⟨cI aE.out 0,cI aE.out 1,cI aE.out 2,cI aA.out 0,cI aA.out 1,cI aA.out 2,(xB HB cO :),(xB HB cN :),(xB HB cQ :),(xB HB cP :)⟩ (fun hHeld=>?_)
   clear hK K;refine norm_ (a':=?_) ?_ ?_;rotate_left
   ·show Act.put _ (some 36) _=_
    simp only [Act.put,sA,sZ,sS,i64_w,i32_w]
    rfl
   refine pZ 16 37 (bv 21 131071) HT_ ?_;refine one_ (i:=17) (N:=some 38) (bv 21 262143) rfl rfl (one_of HT_.out (by kernel_rfl)) (by decide) (fun K hK=>?_)
   refine value_ (w1:=?_) (v:=?_) (by rfl) rfl ?_ ?_
   rotate_left 2
   ·go_simp
    constructor
    ·rfl
    ·rfl
   refine hK.out _ _ ⟨(bC (blk_alloc aE.out _) 0).trans rfl,(bC (blk_alloc aE.out _) 1).trans rfl,(bC (blk_alloc aE.out _) 2).trans rfl,(bC (blk_alloc aA.out _) 0).trans rfl,(bC (blk_alloc aA.out _) 1).trans rfl,(bC (blk_alloc aA.out _) 2).trans rfl,(World.cell?_alloc_lt _ _ _ (World.block_lt_of_cell? _ _ ((xB HB cO :)))).trans ((xB HB cO :)),(World.cell?_alloc_lt _ _ _ (World.block_lt_of_cell? _ _ ((xB HB cN :)))).trans ((xB HB cN :)),(World.cell?_alloc_lt _ _ _ (World.block_lt_of_cell? _ _ ((xB HB cQ :)))).trans ((xB HB cQ :)),(World.cell?_alloc_lt _ _ _ (World.block_lt_of_cell? _ _ ((xB HB cP :)))).trans ((xB HB cP :))⟩ (fun hHeld=>?_)
   clear hK K;refine norm_ (a':=?_) ?_ ?_;rotate_left
   ·show Act.put _ (some 38) _=_
    simp only [Act.put,sA,sZ,sS,i64_w,i32_w]
    rfl
   refine one_ (i:=18) (N:=some 39) (bv 21 524287) rfl rfl (one_of HT_.out (by kernel_rfl)) (by decide) (fun K hK=>?_)
   refine Kd.S_append_step k42 (w0:=w) w.heap.size (by rfl) (.tmp 22) (.tmp 38) 25 42 (.agg #[(.int .i64 0),(.slice none 0 0)]) 32 rfl Try.underlying25 info42 rfl (by decide) (by omega) u671001 bU (⟨(rd_T42 aH bT).f0,dH⟩:S42) [.int .i64 ((rd_T42 aH bT).f0),.slice eY dH.length eZ] (fun _=>True) (fun k_=>some k_=(.slice eY dH.length eZ:Value).ownBlock) rfl rfl ?aP (fun k_ hk_=>((Kd.R_mono (ok':=fun k_=>((fun _=>True)) k_∧some k_≠(u671001:Value).ownBlock) (Kd.R_apart' (dO.out) (Kd.S_typed bL.out) (by decide)) (fun k_ hk=>⟨trivial,hk.2⟩))).1 k_ hk_.symm) ?aF ?aO ?aB ?aS ?aL ?_
   (case aP=>exact k42_mkM _ _ _ (⟨(rd_T42 aH bT).f0,dH⟩:S42) (Kd.R_mono (Kd.R_tight rfl (Kd.R_mono (ok':=fun k_=>((fun _=>True)) k_∧some k_≠(u671001:Value).ownBlock) (Kd.R_apart' (dO.out) (Kd.S_typed bL.out) (by decide)) (fun k_ hk=>⟨trivial,hk.2⟩))) (fun _ h_=>h_)))
   (case aB=>exact (bl HB.out))
   (case aF=>exact (fun _ _=>trivial))
   (case aO=>exact (ks (Kd.S_mono bL.out (fun k_ hk=>⟨trivial,fun e_=>hk.2 e_⟩))))
   (case aS=>exact (below_size (bl HB.out)))
   (case aL=>have:=LMc25.out;omega)
   intro hY iF ho hb hg hat;rw [← fE.out] at ho
   have eU:=aM (ho);replace bV:=aM (Kd.R_over' (kr bV.out) (Kd.S_typed (ks bL.out)) (by decide) hg)
   replace bW:=aM (Kd.R_over' (kr bW.out) (Kd.S_typed (ks bL.out)) (by decide) hg)
   replace aA:=aM (blk_grown (bk aA.out) hg (Kd.S_ne bL.out aA.out (by decide)))
   replace aD:=aM (blk_grown (bk aD.out) hg (Kd.S_ne bL.out aD.out (by decide)))
   replace aE:=aM (blk_grown (bk aE.out) hg (Kd.S_ne bL.out aE.out (by decide)))
   replace HB:=aM (hb);clear bL dO;clear ho hb hg hat;obtain ⟨dY,dZ,fB⟩:=Kd.S_slice eU.out
   (subst fB)
   refine hK.out _ _ ⟨cI aE.out 0,cI aE.out 1,cI aE.out 2,cI aA.out 0,cI aA.out 1,cI aA.out 2,(xB HB cO :),(xB HB cN :),(xB HB cQ :),(xB HB cP :)⟩ (fun hHeld=>?_)
   clear hK K;refine norm_ (a':=?_) ?_ ?_;rotate_left
   ·show Act.put _ (some 39) _=_
    simp only [Act.put,sA,sZ,sS,i64_w,i32_w]
    rfl
   refine pZ 19 40 (bv 21 1048575) HT_ ?_;refine last_ (i:=20) (N:=none) (bv 21 2097151) rfl rfl (one_of HT_.out (by kernel_rfl)) (by decide) (fun K hK=>?_)
   have hfs36:=bF aE.out 1;refine skip_ (w1:=?_) (by rfl) rfl ?_ ?_
   rotate_left
   ·go_simp
    rfl
   refine hK.out _ _ ?_;clear hK K;refine done_ (done_of HT_.out (by kernel_rfl)) ?_
   try go_wp2
   go_roundg k1
   case measure=>have:=fK.out;omega
   case rel=>exact ⟨(wS bT),(dI),(.slice dY dI.length dZ),xE,H',⟨by have:=fK.out;omega⟩,⟨kr (Kd.R_mono (rU1 1 bV.out aE.out (.slice dY dI.length dZ)) (fun _ hk=>trivial))⟩,⟨ks (Kd.S_mono (sU1 1 eU.out aE.out (.slice dY dI.length dZ)) (fun _ hk=>trivial))⟩,⟨kr (Kd.R_mono (rU1 1 bW.out aE.out (.slice dY dI.length dZ)) (fun _ hk=>trivial))⟩,⟨fm aA.out⟩,⟨fm aD.out⟩,⟨by (with_reducible repeat (first|refine blk_drewN ?_ _|refine blk_drew ?_|refine blk_alloc ?_ _));refine blk_put (cs:=#[.slice cT bQ.length cU,u671001,.slice cK cA.length cL]) ?_ 1 _ rfl;(with_reducible repeat (first|refine blk_drewN ?_ _|refine blk_drew ?_|refine blk_alloc ?_ _));exact aE.out⟩,⟨bl HB.out⟩⟩

end Go.Proofs.Ytjodolkdelffaaa.PFnCards
