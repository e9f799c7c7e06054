/- A part of the proof of laws.FnIns. No condition beyond what its theorems say. -/
import Derived.Test.YtljbdchibfjbdaaDoorVFnInsPx0
namespace Go.Proofs.YtljbdchibfjbdaaDoor.PFnIns
open Go.RowKit Go.Proofs.YtljbdchibfjbdaaDoorW.PrintWords Go.Proofs.YtljbdchibfjbdaaDoorW.PrintLast Go.Proofs.YtljbdchibfjbdaaDoorW.PrintMore
set_option linter.unusedVariables false
set_option linter.unusedSimpArgs false

def Z78.f (l0:List Int):Option (Bool):=some (decide ((l0.length:Int) > 1048576))
set_option maxHeartbeats 60000000 in
set_option maxRecDepth 100000 in
theorem Z78.calls (A0:Option Addr) (c0:Nat) (l0:List Int) (r:Bool) (w:World) (hr0:Kd.C (Kd.int .u8) w A0 l0.length l0) (hc0:l0.length≤c0) (h:Z78.f l0=some r) :
  Calls Tryd.prog 5 #[.slice A0 l0.length c0] w fun e w'=>e=.returned (.bool r)∧Drawn0 w w':=by
 have aA:=aM hr0;have aC:=aM hc0;clear hr0 hc0;have H:(some (decide ((l0.length:Int) > 1048576)))=some r:=h;clear h;obtain rfl:=Option.some.inj H;go_enter Tryd.func5,Tryd.ntmps5
 go_wp2
 go_ret
 exact ⟨by rfl,by repeat (exact Drawn0.refl _)⟩

/-- A state of type 96 at block g of W; what its slices lead to came in by w0. -/
def IsS96 (w0 W:World) (g:Nat) (f0:List Int) (f1 f2:Int):Prop:=∃ A0 c0,W.heap[g]?=some (.cells #[.slice A0 f0.length c0,f1,f2] 96 (0,0))∧w0.heap.size≤g∧(Kd.C (Kd.int .u8) w0 A0 f0.length f0∧f0.length≤c0)
theorem IsS96.grown {w0 W:World} {g:Nat} {f0:List Int} {f1:Int} {f2:Int} {W1:World} {row:Option Nat} (h:IsS96 w0 W g f0 f1 f2) (hw:W.grownBy W1 row) (hne:some g≠row):IsS96 w0 W1 g f0 f1 f2:=by
 obtain ⟨A0,c0,hb,hg,hr0⟩:=h;exact ⟨A0,c0,blk_grown hb hw hne,hg,hr0⟩
theorem IsS96.own_neN {w0 W:World} {g:Nat} {f0:List Int} {f1:Int} {f2:Int} {α:Type} {d:Kd α} {e:Nat} {base:Nat} {ok:Nat→Prop} {v:Value} {xs:List α} (h:IsS96 w0 W g f0 f1 f2) (ho:Kd.N d e W base ok v xs) (ht:e≠96):some g≠v.ownBlock:=by
 obtain ⟨A0,c0,hb,hg,hr0⟩:=h;exact Kd.N_ne ho hb ht
theorem IsS96.fresh {w0 W:World} {g:Nat} {f0:List Int} {f1:Int} {f2:Int} (h:IsS96 w0 W g f0 f1 f2):∀ k,W.heap.size≤k→k≠g:=by
 obtain ⟨A0,c0,hb,hg,hr0⟩:=h;exact Kd.freshB hb
theorem IsS96.kept {w0 W:World} {g:Nat} {f0:List Int} {f1:Int} {f2:Int} {W1:World} {S:Nat→Prop} (h:IsS96 w0 W g f0 f1 f2) (hk:Kept W W1 S) (hne:¬ S g):IsS96 w0 W1 g f0 f1 f2:=by
 obtain ⟨A0,c0,hb,hg,hr0⟩:=h;exact ⟨A0,c0,blk_kept hb hk hne,hg,hr0⟩
theorem IsS96.below {w0 W:World} {g:Nat} {f0:List Int} {f1:Int} {f2:Int} {W1:World} (h:IsS96 w0 W g f0 f1 f2) (hw:Below W.heap.size W W1):IsS96 w0 W1 g f0 f1 f2:=h.grown (grown_of_below hw none) (by simp)
theorem IsS96.alloc {w0 W:World} {g:Nat} {f0:List Int} {f1:Int} {f2:Int} (h:IsS96 w0 W g f0 f1 f2) (o:Obj):IsS96 w0 (W.alloc o) g f0 f1 f2:=h.below (below_alloc (Below.refl _ _) o)
theorem IsS96.drewN {w0 W:World} {g:Nat} {f0:List Int} {f1:Int} {f2:Int} (h:IsS96 w0 W g f0 f1 f2) (m:Nat):IsS96 w0 (W.drewN m) g f0 f1 f2:=h
theorem IsS96.drew {w0 W:World} {g:Nat} {f0:List Int} {f1:Int} {f2:Int} (h:IsS96 w0 W g f0 f1 f2):IsS96 w0 W.drew g f0 f1 f2:=h
theorem IsS96.at_ {w0 W:World} {g:Nat} {f0:List Int} {f1:Int} {f2:Int} {w':World} {m:Nat} (hq:W.drewN m=w') (h:IsS96 w0 W g f0 f1 f2):IsS96 w0 w' g f0 f1 f2:=by subst hq;exact IsS96.drewN h m
theorem IsS96.apart {w0 W:World} {g:Nat} {f0:List Int} {f1:Int} {f2:Int} {α:Type} {d:Kd α} {e:Nat} {base:Nat} {ok:Nat→Prop} {v:Value} {xs:List α} (h:IsS96 w0 W g f0 f1 f2) (ho:d.R e W base ok v xs) (ht:∀ q,q∈e :: d.E→q≠96):d.R e W base (fun k=>ok k∧k≠g) v xs:=by
 obtain ⟨A0,c0,hb,hg,hr0⟩:=h;exact Kd.R_types ho hb ht
theorem IsS96.rJ {w0 W:World} {g:Nat} (f0:List Int) (f1:Int) (f2:Int) {α:Type} {d:Kd α} {e:Nat} {base:Nat} {ok:Nat→Prop} {v:Value} {xs:List α} {W1:World} (h:IsS96 w0 W g f0 f1 f2) (ho:d.R e W base ok v xs) (hk:KeepBut W W1 g none) (ht:∀ q,q∈e :: d.E→q≠96:=by decide):d.R e W1 base ok v xs:=Kd.R_mono (Kd.R_keep (IsS96.apart h ho ht) hk (fun _ h=>h.2)) (fun _ h=>h.1)
theorem IsS96.own_ne {w0 W:World} {g:Nat} {f0:List Int} {f1:Int} {f2:Int} {α:Type} {d:Kd α} {e:Nat} {base:Nat} {ok:Nat→Prop} {v:Value} {xs:List α} (h:IsS96 w0 W g f0 f1 f2) (ho:d.R e W base ok v xs) (ht:e≠96):some g≠v.ownBlock:=by
 obtain ⟨A0,c0,hb,hg,hr0⟩:=h;exact Kd.R_ne ho hb ht
theorem IsS96.apartQ {w0 W:World} {g:Nat} {f0:List Int} {f1:Int} {f2:Int} {α:Type} {d:Kd α} {e:Nat} {base:Nat} {ok:Nat→Prop} {v:Value} {xs:List α} (h:IsS96 w0 W g f0 f1 f2) (ho:d.Q e W base ok v xs) (ht:∀ q,q∈e :: d.E→q≠96):d.Q e W base (fun k=>ok k∧k≠g) v xs:=by
 obtain ⟨A0,c0,hb,hg,hr0⟩:=h;exact Kd.Q_types ho hb ht
theorem IsS96.own_neQ {w0 W:World} {g:Nat} {f0:List Int} {f1:Int} {f2:Int} {α:Type} {d:Kd α} {e:Nat} {base:Nat} {ok:Nat→Prop} {v:Value} {xs:List α} (h:IsS96 w0 W g f0 f1 f2) (ho:d.Q e W base ok v xs) (ht:e≠96):some g≠v.ownBlock:=by
 obtain ⟨A0,c0,hb,hg,hr0⟩:=h;exact Kd.Q_ne ho hb ht
theorem IsS96.apartS {w0 W:World} {g:Nat} {f0:List Int} {f1:Int} {f2:Int} {α:Type} {d:Kd α} {e:Nat} {base:Nat} {ok:Nat→Prop} {v:Value} {xs:List α} (h:IsS96 w0 W g f0 f1 f2) (ho:d.S e W base ok v xs) (ht:∀ q,q∈e :: d.E→q≠96):d.S e W base (fun k=>ok k∧k≠g) v xs:=by
 obtain ⟨A0,c0,hb,hg,hr0⟩:=h;exact Kd.S_types ho hb ht
theorem IsS96.own_neS {w0 W:World} {g:Nat} {f0:List Int} {f1:Int} {f2:Int} {α:Type} {d:Kd α} {e:Nat} {base:Nat} {ok:Nat→Prop} {v:Value} {xs:List α} (h:IsS96 w0 W g f0 f1 f2) (ho:d.S e W base ok v xs) (ht:e≠96):some g≠v.ownBlock:=by
 obtain ⟨A0,c0,hb,hg,hr0⟩:=h;exact Kd.S_ne ho hb ht
theorem IsS96.lt {w0 W:World} {g:Nat} {f0:List Int} {f1:Int} {f2:Int} (h:IsS96 w0 W g f0 f1 f2):g<W.heap.size:=by
 obtain ⟨A0,c0,hb,hg,hr0⟩:=h;exact blk_lt hb
theorem IsS96.ge {w0 W:World} {g:Nat} {f0:List Int} {f1:Int} {f2:Int} (h:IsS96 w0 W g f0 f1 f2):w0.heap.size≤g:=by
 obtain ⟨A0,c0,hb,hg,hr0⟩:=h;exact hg
theorem IsS96.ne_blk {w0 W:World} {g:Nat} {f0:List Int} {f1:Int} {f2:Int} {a:Nat} {cs:Array Value} {t:TypeId} {fr:Nat × Nat} (h:IsS96 w0 W g f0 f1 f2) (hb2:W.heap[a]?=some (.cells cs t fr)) (ht:t≠96):g≠a:=by
 obtain ⟨A0,c0,hb,hg,hr0⟩:=h;rintro rfl;rw [hb] at hb2
 injection hb2 with hb2
 injection hb2 with _ ht2
 exact ht ht2.symm
theorem IsS96.far {w0 W:World} {g:Nat} {f0:List Int} {f1:Int} {f2:Int} {p:Addr} (h:IsS96 w0 W g f0 f1 f2) (hne:g≠p.block) (u:Value):IsS96 w0 (W.setCell p u) g f0 f1 f2:=by
 obtain ⟨A0,c0,hb,hg,hr0⟩:=h;exact ⟨A0,c0,blk_far hb hne u,hg,hr0⟩
theorem cellS96_0 {W:World} {g:Nat} {A0:Option Addr} {c0:Nat} {f0:List Int} {f1:Int} {f2:Int} (h:W.heap[g]?=some (.cells #[.slice A0 f0.length c0,f1,f2] 96 (0,0))):W.cell? ⟨g,0,none⟩=some (.slice A0 f0.length c0):=(bC h 0).trans rfl
theorem IsS96.put_0 {w0 W:World} {g:Nat} {f0:List Int} {f1:Int} {f2:Int} {A_:Option Addr} {c_:Nat} {x_:List Int} (h:IsS96 w0 W g f0 f1 f2) (hx_:Kd.C (Kd.int .u8) w0 A_ x_.length x_∧x_.length≤c_):IsS96 w0 (W.setCell ⟨g,0,none⟩ (.slice A_ x_.length c_)) g x_ f1 f2:=by
 obtain ⟨A0,c0,hb,hg,hr0⟩:=h;exact ⟨A_,c_,by simpa using blk_set hb 0 (.slice A_ x_.length c_),hg,hx_⟩
theorem cellS96_1 {W:World} {g:Nat} {A0:Option Addr} {c0:Nat} {f0:List Int} {f1:Int} {f2:Int} (h:W.heap[g]?=some (.cells #[.slice A0 f0.length c0,f1,f2] 96 (0,0))):W.cell? ⟨g,1,none⟩=some f1:=(bC h 1).trans rfl
theorem IsS96.set_1 {w0 W:World} {g:Nat} {f0:List Int} {f1:Int} {f2:Int} (h:IsS96 w0 W g f0 f1 f2) (x:Int):IsS96 w0 (W.setCell ⟨g,1,none⟩ (.int .i64 x)) g f0 x f2:=by
 obtain ⟨A0,c0,hb,hg,hr0⟩:=h;exact ⟨A0,c0,by simpa using blk_set hb 1 (.int .i64 x),hg,hr0⟩
theorem cellS96_2 {W:World} {g:Nat} {A0:Option Addr} {c0:Nat} {f0:List Int} {f1:Int} {f2:Int} (h:W.heap[g]?=some (.cells #[.slice A0 f0.length c0,f1,f2] 96 (0,0))):W.cell? ⟨g,2,none⟩=some f2:=(bC h 2).trans rfl
theorem IsS96.set_2 {w0 W:World} {g:Nat} {f0:List Int} {f1:Int} {f2:Int} (h:IsS96 w0 W g f0 f1 f2) (x:Int):IsS96 w0 (W.setCell ⟨g,2,none⟩ (.int .i64 x)) g f0 f1 x:=by
 obtain ⟨A0,c0,hb,hg,hr0⟩:=h;exact ⟨A0,c0,by simpa using blk_set hb 2 (.int .i64 x),hg,hr0⟩
theorem IsS96.new (w0 W:World) (A0:Option Addr) (c0:Nat) (f0:List Int) (f1 f2:Int) (hB:Below w0.heap.size w0 W) (hr0:Kd.C (Kd.int .u8) w0 A0 f0.length f0∧f0.length≤c0):IsS96 w0 (W.alloc (.cells #[.slice A0 f0.length c0,f1,f2] 96)) W.heap.size f0 f1 f2:=⟨A0,c0,by simpa using heap_alloc_new W _,hB.size,hr0⟩

theorem IsS96.mv {w0 W W':World} {g:Nat} {f0 f0':List Int} {f1 f1':Int} {f2 f2':Int} (h:IsS96 w0 W g f0 f1 f2) (hs:IsS96 w0 W g f0 f1 f2→IsS96 w0 W' g f0' f1' f2':=by intro h;repeat (first|(with_reducible first|exact h|apply IsS96.alloc|apply IsS96.drewN|apply IsS96.drew|apply IsS96.set_1|apply IsS96.set_2|refine IsS96.far ?_ (Aside0.out (by assumption)) _)|exact h)):IsS96 w0 W' g f0' f1' f2':=hs h
theorem IsS96.bl {B:Nat} {w0 W W':World} (h:Below B w0 W) (hs:Below B w0 W→Below B w0 W':=by intro h;repeat (first|(with_reducible first|exact h|apply below_alloc|apply pw_below_drewN|apply below_drew1|refine below_set ?_ (Aside0.out (by assumption))|refine below_set ?_ (IsS96.ge (Aside0.out (by assumption))))|exact h)):Below B w0 W':=hs h
def Z53.f (aD:List Int) (aC aA:Int):Option (Int × Int × Int):=if aC<(aD.length:Int) then (if 0≤aC then (some (Go.bits .and .i64 (wrap64 ((Go.bits .and .i64 (Go.bits .xor .i64 ((wrap64 ((wrap64 (aA*6364136223846793005))+1442695040888963407)) / 8589934592) ((wrap64 ((wrap64 (aA*6364136223846793005))+1442695040888963407)) / 35184372088832)) 255)+(wrap64 (rd aD aC)))) 255,wrap64 (aC+1),wrap64 ((wrap64 (aA*6364136223846793005))+1442695040888963407))) else (none)) else (some (Go.bits .and .i64 (Go.bits .xor .i64 ((wrap64 ((wrap64 (aA*6364136223846793005))+1442695040888963407)) / 8589934592) ((wrap64 ((wrap64 (aA*6364136223846793005))+1442695040888963407)) / 35184372088832)) 255,aC,wrap64 ((wrap64 (aA*6364136223846793005))+1442695040888963407)))
set_option maxHeartbeats 60000000 in
set_option maxRecDepth 100000 in
theorem Z53.calls (g:Nat) (aE:List Int) (aC aD r1 r2 r3:Int) (w0 w:World) (hI:IsS96 w0 w g aE aC aD) (hB:Below w0.heap.size w0 w) (h:Z53.f aE aC aD=some (r1,r2,r3)) :
  Calls Tryd.prog 84 #[.pointer (some ⟨g,0,none⟩)] w fun e w'=>e=.returned (.int .i64 r1)∧IsS96 w0 w' g aE r2 r3∧Below w0.heap.size w0 w'∧KeepBut w w' g none:=by
 have aG:=aM hI;have HK:=aM (KeepBut.refl w g none);have HL:=aM hB.size;clear hI;have HW0:=aM hB.size;have HB:=aM hB;clear hB;have H:(if aC<(aE.length:Int) then (if 0≤aC then (some (Go.bits .and .i64 (wrap64 ((Go.bits .and .i64 (Go.bits .xor .i64 ((wrap64 ((wrap64 (aD*6364136223846793005))+1442695040888963407)) / 8589934592) ((wrap64 ((wrap64 (aD*6364136223846793005))+1442695040888963407)) / 35184372088832)) 255)+(wrap64 (rd aE aC)))) 255,wS aC,wrap64 ((wrap64 (aD*6364136223846793005))+1442695040888963407))) else (none)) else (some (Go.bits .and .i64 (Go.bits .xor .i64 ((wrap64 ((wrap64 (aD*6364136223846793005))+1442695040888963407)) / 8589934592) ((wrap64 ((wrap64 (aD*6364136223846793005))+1442695040888963407)) / 35184372088832)) 255,aC,wrap64 ((wrap64 (aD*6364136223846793005))+1442695040888963407))))=some (r1,r2,r3):=h;clear h
 by_cases c2:aC<(aE.length:Int)
 case neg =>
  rw [if_neg c2] at H
  have aK:=decide_eq_false c2;clear c2;simp only [Option.some.injEq,Prod.mk.injEq] at H;obtain ⟨rfl,rfl,rfl⟩:=H;obtain ⟨ASz5_0,cSz5_0,HGz5,hgz5,HSz5_0⟩:=aG.out;have aT:=cellS96_0 HGz5;have aV:=cellS96_1 HGz5;have aW:=cellS96_2 HGz5;have aX:=bF HGz5 1;have bA:=bF HGz5 2;clear HGz5 hgz5;go_enter Tryd.func84,Tryd.ntmps84
  go_wp2
  repeat (go_quiet (fail);try go_wp2)
  go_ret
  exact ⟨xW,IsS96.mv aG.out,IsS96.bl HB.out,km HK.out⟩
 rw [if_pos c2] at H
 have aK:=decide_eq_true c2;clear c2;obtain ⟨bK,H⟩:=gI H;simp only [Option.some.injEq,Prod.mk.injEq] at H;obtain ⟨rfl,rfl,rfl⟩:=H;obtain ⟨ASz4_0,cSz4_0,HGz4,hgz4,HSz4_0⟩:=aG.out;have bD:=cellS96_0 HGz4;have bG:=cellS96_1 HGz4;have bH:=cellS96_2 HGz4;have bI:=bF HGz4 1;have bJ:=bF HGz4 2;clear HGz4 hgz4;have aH:0≤(aC:Int):=dT;have aI:aC<(aE.length:Int):=dT;obtain ⟨aJ,aN,aA⟩:=Kd.at_int HSz4_0.1 aC aH aI;cases aN
 have hn101_0:aJ.block≠g:=Nat.ne_of_lt (Nat.lt_of_lt_of_le (by have:=World.block_lt_of_cell? _ _ aA;rwa [add_block] at this) (IsS96.ge aG.out))
 replace aA:=pw_cell_below HB.out aA;replace aA:=(cell_far (p:=⟨g,2,none⟩) (by (rw [add_block];exact hn101_0)) (.int .i64 (wrap64 ((wrap64 (aD*6364136223846793005))+1442695040888963407)))).trans aA
 (try have aQ:=fun (n_:Nat)=>(show (((w.drewN n_).setCell ⟨g,2,none⟩ (.int .i64 (wrap64 ((wrap64 (aD*6364136223846793005))+1442695040888963407))))).cell? _=some _ from aA))
 clear hn101_0;replace aH:=eq_true aH;replace aI:=eq_true aI;go_enter Tryd.func84,Tryd.ntmps84
 go_wp2
 repeat (go_quiet (fail);try go_wp2)
 go_ret
 exact ⟨xW,IsS96.mv aG.out,IsS96.bl HB.out,km HK.out⟩

def Z3.f (aA:List Int) (aI aJ a1:Int):Option (Int × Int × Int):=if a1≤0 then (some (0,aI,aJ)) else (if a1≤256 then ((Z53.f aA aI aJ).bind fun aC=>(if a1=0 then (none) else (some (Int.tmod aC.1 a1,aC.2.1,aC.2.2)))) else ((Z53.f aA aI aJ).bind fun aD=>((Z53.f aA aD.2.1 aD.2.2).bind fun aE=>((Z53.f aA aE.2.1 aE.2.2).bind fun aG=>((Z53.f aA aG.2.1 aG.2.2).bind fun aH=>(if a1=0 then (none) else (some (Int.tmod (wrap64 ((wrap64 ((wrap64 ((wrap64 (aD.1*16777216))+(wrap64 (aE.1*65536))))+(wrap64 (aG.1*256))))+aH.1)) a1,aH.2.1,aH.2.2))))))))
set_option maxHeartbeats 60000000 in
set_option maxRecDepth 100000 in
theorem Z3.calls (g:Nat) (aA:List Int) (aD aE a1 r1 r2 r3:Int) (w0 w:World) (hI:IsS96 w0 w g aA aD aE) (hB:Below w0.heap.size w0 w) (h:Z3.f aA aD aE a1=some (r1,r2,r3)) :
  Calls Tryd.prog 60 #[.pointer (some ⟨g,0,none⟩),a1] w fun e w'=>e=.returned (.int .i64 r1)∧IsS96 w0 w' g aA r2 r3∧Below w0.heap.size w0 w'∧KeepBut w w' g none:=by
 have aC:=aM hI;have HK:=aM (KeepBut.refl w g none);have HL:=aM hB.size;clear hI;have HW0:=aM hB.size;have HB:=aM hB;clear hB;have H:(if a1≤0 then (some (0,aD,aE)) else (if a1≤256 then ((Z53.f aA aD aE).bind fun aG=>(if a1=0 then (none) else (some (Int.tmod aG.1 a1,aG.2.1,aG.2.2)))) else ((Z53.f aA aD aE).bind fun aH=>((Z53.f aA aH.2.1 aH.2.2).bind fun aI=>((Z53.f aA aI.2.1 aI.2.2).bind fun aJ=>((Z53.f aA aJ.2.1 aJ.2.2).bind fun aK=>(if a1=0 then (none) else (some (Int.tmod (wrap64 ((wrap64 ((wrap64 ((wrap64 (aH.1*16777216))+(wrap64 (aI.1*65536))))+(wrap64 (aJ.1*256))))+aK.1)) a1,aK.2.1,aK.2.2)))))))))=some (r1,r2,r3):=h
 clear h
 by_cases c3:a1≤0
 case pos =>
  rw [if_pos c3] at H
  have bK:=decide_eq_true c3;clear c3;simp only [Option.some.injEq,Prod.mk.injEq] at H;obtain ⟨rfl,rfl,rfl⟩:=H;go_enter Tryd.func60,Tryd.ntmps60
  go_wp2
  go_ret
  exact ⟨xW,IsS96.mv aC.out,IsS96.bl HB.out,km HK.out⟩
 rw [if_neg c3] at H
 have bK:=decide_eq_false c3;clear c3
 by_cases c4:a1≤256
 case pos =>
  rw [if_pos c4] at H
  have bL:=decide_eq_true c4;clear c4;obtain ⟨⟨bM,bN,bO⟩,bH,H⟩:=hB H
  try dsimp only at H
  have A5:=aM bH;clear bH
  by_cases c6:a1=0
  case pos =>
   rw [if_pos c6] at H
   exact absurd H (by simp)
  rw [if_neg c6] at H
  have cC:(a1 == 0)=false:=beq_eq_false_iff_ne.mpr c6;have cD:(a1 != 0)=true:=bne_iff_ne.mpr c6;simp only [Option.some.injEq,Prod.mk.injEq] at H;obtain ⟨rfl,rfl,rfl⟩:=H;go_enter Tryd.func60,Tryd.ntmps60
  go_wp2_with (((with_reducible refine gC (f:=84) rfl ?_);refine goesL_ (some 14) rfl rfl Tryd.func84 (by kernel_rfl) rfl #[.pointer (some ⟨g,0,none⟩)] rfl xR ?_;(with_reducible refine (Z53.calls g aA aD aE bM bN bO w0 _ ?side1 ?side2 A5.out).mono ?_);(case side1=>exact IsS96.mv aC.out);(case side2=>exact IsS96.bl HB.out);rintro e w7 ⟨rfl,hi,hb,hk⟩;refine ⟨_,rfl,?_⟩;replace HK:=aM (KeepBut.trans (km HK.out) hk (.inl rfl));replace HB:=aM (hb);replace aC:=aM (hi);(repeat first|clear hb|clear hk|clear hi)))
  go_ret
  exact ⟨xW,IsS96.mv aC.out,IsS96.bl HB.out,km HK.out⟩
 rw [if_neg c4] at H
 have bL:=decide_eq_false c4;clear c4;obtain ⟨⟨bP,aQ,aT⟩,bI,H⟩:=hB H
 try dsimp only at H
 have A8:=aM bI;clear bI;obtain ⟨⟨bQ,aV,aW⟩,bJ,H⟩:=hB H
 try dsimp only at H
 have A9:=aM bJ;clear bJ;obtain ⟨⟨bT,aX,bA⟩,bD,H⟩:=hB H
 try dsimp only at H
 have bX:=aM bD;clear bD;obtain ⟨⟨bU,bV,bW⟩,bG,H⟩:=hB H
 try dsimp only at H
 have bY:=aM bG;clear bG
 by_cases aN:a1=0
 case pos =>
  rw [if_pos aN] at H
  exact absurd H (by simp)
 rw [if_neg aN] at H
 have bZ:(a1 == 0)=false:=beq_eq_false_iff_ne.mpr aN;have cA:(a1 != 0)=true:=bne_iff_ne.mpr aN;simp only [Option.some.injEq,Prod.mk.injEq] at H;obtain ⟨rfl,rfl,rfl⟩:=H;go_enter Tryd.func60,Tryd.ntmps60
 go_wp2_with (first|((with_reducible refine gC (f:=84) rfl ?_);refine goesL_ (some 18) rfl rfl Tryd.func84 (by kernel_rfl) rfl #[.pointer (some ⟨g,0,none⟩)] rfl xR ?_;(with_reducible refine (Z53.calls g aA aD aE bP aQ aT w0 _ ?side1 ?side2 A8.out).mono ?_);(case side1=>exact IsS96.mv aC.out);(case side2=>exact IsS96.bl HB.out);rintro e cE ⟨rfl,hi,hb,hk⟩;refine ⟨_,rfl,?_⟩;replace HK:=aM (KeepBut.trans (km HK.out) hk (.inl rfl));replace HB:=aM (hb);replace aC:=aM (hi);(repeat first|clear hb|clear hk|clear hi))|((with_reducible refine gC (f:=84) rfl ?_);refine goesL_ (some 20) rfl rfl Tryd.func84 (by kernel_rfl) rfl #[.pointer (some ⟨g,0,none⟩)] rfl xR ?_;(with_reducible refine (Z53.calls g aA aQ aT bQ aV aW w0 _ ?side1 ?side2 A9.out).mono ?_);(case side1=>exact IsS96.mv aC.out);(case side2=>exact IsS96.bl HB.out);rintro e cG ⟨rfl,hi,hb,hk⟩;refine ⟨_,rfl,?_⟩;replace HK:=aM (KeepBut.trans (km HK.out) hk (.inl rfl));replace HB:=aM (hb);replace aC:=aM (hi);(repeat first|clear hb|clear hk|clear hi))|((with_reducible refine gC (f:=84) rfl ?_);refine goesL_ (some 22) rfl rfl Tryd.func84 (by kernel_rfl) rfl #[.pointer (some ⟨g,0,none⟩)] rfl xR ?_;(with_reducible refine (Z53.calls g aA aV aW bT aX bA w0 _ ?side1 ?side2 bX.out).mono ?_);(case side1=>exact IsS96.mv aC.out);(case side2=>exact IsS96.bl HB.out);rintro e cH ⟨rfl,hi,hb,hk⟩;refine ⟨_,rfl,?_⟩;replace HK:=aM (KeepBut.trans (km HK.out) hk (.inl rfl));replace HB:=aM (hb);replace aC:=aM (hi);(repeat first|clear hb|clear hk|clear hi))|((with_reducible refine gC (f:=84) rfl ?_);refine goesL_ (some 24) rfl rfl Tryd.func84 (by kernel_rfl) rfl #[.pointer (some ⟨g,0,none⟩)] rfl xR ?_;(with_reducible refine (Z53.calls g aA aX bA bU bV bW w0 _ ?side1 ?side2 bY.out).mono ?_);(case side1=>exact IsS96.mv aC.out);(case side2=>exact IsS96.bl HB.out);rintro e cK ⟨rfl,hi,hb,hk⟩;refine ⟨_,rfl,?_⟩;replace HK:=aM (KeepBut.trans (km HK.out) hk (.inl rfl));replace HB:=aM (hb);replace aC:=aM (hi);(repeat first|clear hb|clear hk|clear hi)))
 go_ret
 exact ⟨xW,IsS96.mv aC.out,IsS96.bl HB.out,km HK.out⟩

def Z44.f (aC:List Int) (aD aE a1:Int):Option (Bool × Int × Int):=(Z3.f aC aD aE a1).bind fun aA=>(some ((aA.1 == 0),aA.2.1,aA.2.2))
set_option maxHeartbeats 60000000 in
set_option maxRecDepth 100000 in
theorem Z44.calls (g:Nat) (aA:List Int) (aC aD a1:Int) (r1:Bool) (r2 r3:Int) (w0 w:World) (hI:IsS96 w0 w g aA aC aD) (hB:Below w0.heap.size w0 w) (h:Z44.f aA aC aD a1=some (r1,r2,r3)) :
  Calls Tryd.prog 56 #[.pointer (some ⟨g,0,none⟩),a1] w fun e w'=>e=.returned (.bool r1)∧IsS96 w0 w' g aA r2 r3∧Below w0.heap.size w0 w'∧KeepBut w w' g none:=by
 have aG:=aM hI;have HK:=aM (KeepBut.refl w g none);have HL:=aM hB.size;clear hI;have HW0:=aM hB.size;have HB:=aM hB;clear hB;have H:((Z3.f aA aC aD a1).bind fun aE=>(some ((aE.1 == 0),aE.2.1,aE.2.2)))=some (r1,r2,r3):=h
 clear h;obtain ⟨⟨aI,aJ,aK⟩,aH,H⟩:=hB H
 try dsimp only at H
 have A3:=aM aH;clear aH;simp only [Option.some.injEq,Prod.mk.injEq] at H;obtain ⟨rfl,rfl,rfl⟩:=H;go_enter Tryd.func56,Tryd.ntmps56
 go_wp2_with (((with_reducible refine gC (f:=60) rfl ?_);refine goesL_ (some 7) rfl rfl Tryd.func60 (by kernel_rfl) rfl #[.pointer (some ⟨g,0,none⟩),a1] rfl xR ?_;(with_reducible refine (Z3.calls g aA aC aD a1 aI aJ aK w0 _ ?side1 ?side2 A3.out).mono ?_);(case side1=>exact IsS96.mv aG.out);(case side2=>exact IsS96.bl HB.out);rintro e w4 ⟨rfl,hi,hb,hk⟩;refine ⟨_,rfl,?_⟩;replace HK:=aM (KeepBut.trans (km HK.out) hk (.inl rfl));replace HB:=aM (hb);replace aG:=aM (hi);(repeat first|clear hb|clear hk|clear hi)))
 go_ret
 exact ⟨xW,IsS96.mv aG.out,IsS96.bl HB.out,km HK.out⟩

def Z69.f (aE:List Int) (aH aI:Int):Option (Int × Int × Int × Int × Int × Int):=(Z3.f aE aH aI 4).bind fun aA=>((Z3.f aE aA.2.1 aA.2.2 4).bind fun aD=>((Z3.f aE aD.2.1 aD.2.2 3).bind fun aC=>(if (wrap64 ((wrap64 (1+aA.1))+aC.1)) > (wrap64 (1+aA.1)) then ((Z3.f aE aC.2.1 aC.2.2 3).bind fun aG=>(some (wrap64 (1+aA.1),wrap64 (1+aG.1),wrap64 ((wrap64 (1+aA.1))+aC.1),aD.1,aG.2.1,aG.2.2))) else (some (wrap64 (1+aA.1),0,wrap64 ((wrap64 (1+aA.1))+aC.1),aD.1,aC.2.1,aC.2.2)))))
set_option maxHeartbeats 60000000 in
set_option maxRecDepth 100000 in
theorem Z69.calls (g:Nat) (aE:List Int) (aX bA r1 r2 r3 r4 r5 r6:Int) (w0 w:World) (hI:IsS96 w0 w g aE aX bA) (hB:Below w0.heap.size w0 w) (h:Z69.f aE aX bA=some (r1,r2,r3,r4,r5,r6)) :
  Calls Tryd.prog 76 #[.pointer (some ⟨g,0,none⟩)] w fun e w'=>e=.returned (.agg #[r1,r2,r3,r4])∧IsS96 w0 w' g aE r5 r6∧Below w0.heap.size w0 w'∧KeepBut w w' g none:=by
 have eE:=Tryd.underlying25;have aD:=aM hI;have HK:=aM (KeepBut.refl w g none);have HL:=aM hB.size;clear hI;have HW0:=aM hB.size;have HB:=aM hB;clear hB;have H:((Z3.f aE aX bA 4).bind fun aQ=>((Z3.f aE aQ.2.1 aQ.2.2 4).bind fun bK=>((Z3.f aE bK.2.1 bK.2.2 3).bind fun bD=>(if (wrap64 ((wrap64 (1+aQ.1))+bD.1)) > (wrap64 (1+aQ.1)) then ((Z3.f aE bD.2.1 bD.2.2 3).bind fun bL=>(some (wrap64 (1+aQ.1),wrap64 (1+bL.1),wrap64 ((wrap64 (1+aQ.1))+bD.1),bK.1,bL.2.1,bL.2.2))) else (some (wrap64 (1+aQ.1),0,wrap64 ((wrap64 (1+aQ.1))+bD.1),bK.1,bD.2.1,bD.2.2))))))=some (r1,r2,r3,r4,r5,r6):=h
 clear h;obtain ⟨⟨aG,bM,bN⟩,bX,H⟩:=hB H
 try dsimp only at H
 have A2:=aM bX;clear bX;obtain ⟨⟨aT,aV,aW⟩,bY,H⟩:=hB H
 try dsimp only at H
 have A3:=aM bY;clear bY;obtain ⟨⟨bG,bO,bP⟩,bZ,H⟩:=hB H
 try dsimp only at H
 have A4:=aM bZ;clear bZ
 by_cases c5:(wrap64 ((wrap64 (1+aG))+bG)) > (wrap64 (1+aG))
 case pos =>
  rw [if_pos c5] at H
  have cD:=decide_eq_true c5;clear c5;obtain ⟨⟨bQ,cE,cG⟩,cA,H⟩:=hB H
  try dsimp only at H
  have A6:=aM cA;clear cA;simp only [Option.some.injEq,Prod.mk.injEq] at H;obtain ⟨rfl,rfl,rfl,rfl,rfl,rfl⟩:=H;go_enter Tryd.func76,Tryd.ntmps76
  try go_wp2_with (first|((with_reducible refine gD (N:=2) rfl ?_);refine bE (N:=2) (cs:=#[.int .i64 0,.int .i64 0,.int .i64 0,.int .i64 0]) (t:=25) ?_;intro bH hg w7 hbox hb;have aC:=aM (hbox);have bT:=gE hg (keep_size (km HK.out));have bU:=gE2 HW0.out hg (keep_size (km HK.out));have bI:=nL hg (IsS96.lt (show IsS96 w0 _ g aE aX bA from IsS96.mv aD.out));have aH:=nG hg (IsS96.lt (show IsS96 w0 _ g aE aX bA from IsS96.mv aD.out));replace aD:=aM (IsS96.below (IsS96.mv aD.out) hb);replace HK:=rU HK hb;replace HB:=aM (bS (IsS96.bl HB.out) hb);clear hb hbox hg)|((with_reducible refine gC (f:=60) rfl ?_);refine goesL_ (some 5) rfl rfl Tryd.func60 (by kernel_rfl) rfl #[.pointer (some ⟨g,0,none⟩),.int .i64 4] rfl xR ?_;(with_reducible refine (Z3.calls g aE aX bA 4 aG bM bN w0 _ ?side1 ?side2 A2.out).mono ?_);(case side1=>exact IsS96.mv aD.out);(case side2=>exact IsS96.bl HB.out);rintro e w8 ⟨rfl,hi,hb,hk⟩;refine ⟨_,rfl,?_⟩;replace aC:=rP hk aC aH;replace HK:=aM (KeepBut.trans (km HK.out) hk (.inl rfl));replace HB:=aM (hb);replace aD:=aM (hi);(repeat first|clear hb|clear hk|clear hi))|((with_reducible refine gC (f:=60) rfl ?_);refine goesL_ (some 8) rfl rfl Tryd.func60 (by kernel_rfl) rfl #[.pointer (some ⟨g,0,none⟩),.int .i64 4] rfl xR ?_;(with_reducible refine (Z3.calls g aE bM bN 4 aT aV aW w0 _ ?side1 ?side2 A3.out).mono ?_);(case side1=>exact IsS96.mv aD.out);(case side2=>exact IsS96.bl HB.out);rintro e w9 ⟨rfl,hi,hb,hk⟩;refine ⟨_,rfl,?_⟩;replace aC:=rP hk aC aH;replace HK:=aM (KeepBut.trans (km HK.out) hk (.inl rfl));replace HB:=aM (hb);replace aD:=aM (hi);(repeat first|clear hb|clear hk|clear hi))|((with_reducible refine gD (N:=3) rfl ?_);refine bE (N:=3) (cs:=#[.int .i64 0,.int .i64 0,.int .i64 0,.int .i64 0]) (t:=25) ?_;intro aI hg eH hbox hb;have aA:=aM (hbox);have bV:=gE hg (keep_size (km HK.out));have bW:=gE2 HW0.out hg (keep_size (km HK.out));have aJ:=nM hg aC;have aK:=nH hg aC;have bJ:=nL hg (IsS96.lt (show IsS96 w0 _ g aE aV aW from IsS96.mv aD.out));have aN:=nG hg (IsS96.lt (show IsS96 w0 _ g aE aV aW from IsS96.mv aD.out));replace aD:=aM (IsS96.below (IsS96.mv aD.out) hb);replace aC:=rB aC hb;replace HK:=rU HK hb;replace HB:=aM (bS (IsS96.bl HB.out) hb);clear hb hbox hg;have dN:=aK.out;have dO:=aJ.out;have dP:=aN.out;have dQ:=bJ.out;have dR:=cA4 aA.out))
  refine nW (fun W=>Aside0 (W.heap[bH]?=some (.cells #[.int .i64 0,.int .i64 0,.int .i64 0,.int .i64 0] 25 (0,0)))∧Aside0 (W.heap[aI]?=some (.cells #[.int .i64 (wrap64 (1+aG)),.int .i64 0,.int .i64 0,aT] 25 (0,0)))∧Aside0 (IsS96 w0 W g aE aV aW)∧Aside0 (KeepBut w W g none)∧Aside0 (Below w0.heap.size w0 W)) ⟨⟨fm aC.out⟩,⟨bm aA.out⟩,⟨IsS96.mv aD.out⟩,⟨km HK.out⟩,⟨IsS96.bl HB.out⟩⟩ ?_
  intro dJ nn_;replace aC:=nn_.1;replace aA:=nn_.2.1;replace aD:=nn_.2.2.1;replace HK:=nn_.2.2.2.1;replace HB:=nn_.2.2.2.2;clear nn_;replace aC:=aM (blk_drew aC.out);replace aA:=aM (blk_drew aA.out);replace aD:=aM (IsS96.drew aD.out);replace HK:=aM (keep_drew HK.out);replace HB:=aM (below_drew1 HB.out);refine start_ (n:=7) (S:=fun w'=>cS4 w' aI (.int .i64 (wrap64 (1+aG))) (.int .i64 0) (.int .i64 0) (.int .i64 aT)) (ds:=[6]) (dn 7 0) (by kernel_rfl) rfl rfl ⟨cI aA.out 0,cI aA.out 1,cI aA.out 2,cI aA.out 3⟩ (fun hHeld=>?_)
  generalize dJ.drew=eI at aC aA aD HK HB hHeld ⊢
  refine pure_ (i:=0) (N:=some 10) (v:=?_) (a':=?_) (bv 7 1) rfl rfl (by kernel_rfl) (fun _ _ _ h=>h) (Or.inl ⟨by rfl,?_⟩) ?_ ?_
  rotate_left
  ·intro w'
   go_simp
   with_reducible rfl
  rotate_left
  ·simp only [Act.put,sA,sZ,sS,i64_w,i32_w]
   rfl
  refine pure_ (i:=2) (N:=some 12) (v:=?_) (a':=?_) (bv 7 5) rfl rfl (by kernel_rfl) (fun _ _ _ h=>h) (Or.inl ⟨by rfl,?_⟩) ?_ ?_
  rotate_left
  ·intro w'
   go_simp
   with_reducible rfl
  rotate_left
  ·simp only [Act.put,sA,sZ,sS,i64_w,i32_w]
   rfl
  refine take_ (i:=1) (N:=some 11) (v:=?_) (a':=?_) (bv 7 7) rfl rfl (by kernel_rfl) (fun _ _ _ h=>h) (Or.inl ⟨by rfl,?_⟩) hHeld ?_ ?_
  rotate_left
  ·rintro w' ⟨s0,s1,s2,s3⟩
   go_simp
   with_reducible rfl
  rotate_left
  ·simp only [Act.put,sA,sZ,sS,i64_w,i32_w]
   rfl
  refine one_ (i:=3) (N:=some 13) (bv 7 15) rfl rfl (by kernel_rfl) (by decide) (fun K hK=>?_)
  refine goes_ Tryd.func60 (by kernel_rfl) rfl #[.pointer (some ⟨g,0,none⟩),.int .i64 3] (by rfl) rfl rfl xR ?_
  with_reducible refine (Z3.calls g aE aV aW 3 bG bO bP w0 _ ?side1 ?side2 A4.out).mono ?_
  (case side1=>exact IsS96.mv aD.out)
  (case side2=>exact IsS96.bl HB.out)
  rintro e dK ⟨rfl,hi,hb,hk⟩;refine ⟨_,rfl,?_⟩;replace aC:=rP hk aC aH;replace aA:=rP hk aA aN;replace HK:=aM (KeepBut.trans (km HK.out) hk (.inl rfl));replace HB:=aM (hb);replace aD:=aM (hi)
  (try clear hb)
  (try clear hk)
  (try clear hi)
  refine hK.out _ _ ⟨cI aA.out 0,cI aA.out 1,cI aA.out 2,cI aA.out 3⟩ (fun hHeld=>?_)
  clear hK K;refine norm_ (a':=?_) ?_ ?_;rotate_left
  ·show Act.put _ (some 13) _=_
   simp only [Act.put,sA,sZ,sS,i64_w,i32_w]
   rfl
  refine pure_ (i:=4) (N:=some 14) (v:=?_) (a':=?_) (bv 7 31) rfl rfl (by kernel_rfl) (fun _ _ _ h=>h) (Or.inl ⟨by rfl,?_⟩) ?_ ?_
  rotate_left
  ·intro w'
   go_simp
   with_reducible rfl
  rotate_left
  ·simp only [Act.put,sA,sZ,sS,i64_w,i32_w]
   rfl
  refine pure_ (i:=5) (N:=some 15) (v:=?_) (a':=?_) (bv 7 63) rfl rfl (by kernel_rfl) (fun _ _ _ h=>h) (Or.inl ⟨by rfl,?_⟩) ?_ ?_
  rotate_left
  ·intro w'
   go_simp
   with_reducible rfl
  rotate_left
  ·simp only [Act.put,sA,sZ,sS,i64_w,i32_w]
   rfl
  refine last_ (i:=6) (N:=none) (bv 7 127) rfl rfl (by kernel_rfl) (by decide) (fun K hK=>?_)
  have eF:=cI aA.out 2;have hfs17:=bF aA.out 2;have hns17_0:=aJ.out;have hms17_0:=aK.out;refine skip_ (w1:=?_) (by rfl) rfl ?_ ?_
  rotate_left
  ·go_simp
   rfl
  refine hK.out _ _ ?_;clear hK K;refine done_ (by kernel_rfl) ?_
  have cH:dK.cell? ⟨aI,0,none⟩=some (.int .i64 (wrap64 (1+aG))):=cI aA.out 0;have cK:=cI aA.out 1;have cL:=cI aA.out 2;have cN:=cI aA.out 3;have cO:=bF aA.out 0;have cP:=bF aA.out 1;have cQ:=bF aA.out 2;have cR:=bF aA.out 3
  try go_wp2_with (((with_reducible refine gC (f:=60) rfl ?_);refine goesL_ (some 22) rfl rfl Tryd.func60 (by kernel_rfl) rfl #[.pointer (some ⟨g,0,none⟩),.int .i64 3] rfl xR ?_;(with_reducible refine (Z3.calls g aE bO bP 3 bQ cE cG w0 _ ?side1 ?side2 A6.out).mono ?_);(case side1=>exact IsS96.mv aD.out);(case side2=>exact IsS96.bl HB.out);rintro e cC ⟨rfl,hi,hb,hk⟩;refine ⟨_,rfl,?_⟩;replace aC:=aM (KeepBut.blk hk (fm aC.out) aH.out (by simp));replace aA:=aM (KeepBut.blk hk (g':=aI) (o:=.cells #[.int .i64 (wrap64 (1+aG)),.int .i64 0,.int .i64 (wrap64 ((wrap64 (1+aG))+bG)),aT] 25 (0,0)) (by (with_reducible repeat (first|refine blk_drewN ?_ _|refine blk_drew ?_|refine blk_alloc ?_ _));refine blk_put (cs:=#[.int .i64 (wrap64 (1+aG)),.int .i64 0,.int .i64 0,aT]) ?_ 2 _ rfl;(with_reducible repeat (first|refine blk_drewN ?_ _|refine blk_drew ?_|refine blk_alloc ?_ _));exact aA.out) aN.out (by simp));replace HK:=aM (KeepBut.trans (km HK.out) hk (.inl rfl));replace HB:=aM (hb);replace aD:=aM (hi);(repeat first|clear hb|clear hk|clear hi);have cS:cC.cell? ⟨aI,0,none⟩=some (.int .i64 (wrap64 (1+aG))):=cI aA.out 0;have cT:=cI aA.out 1;have cU:cC.cell? ⟨aI,2,none⟩=some (.int .i64 (wrap64 ((wrap64 (1+aG))+bG))):=cI aA.out 2;have cV:=cI aA.out 3;have cW:=bF aA.out 0;have cX:=bF aA.out 1;have cY:=bF aA.out 2;have dA:=bF aA.out 3;have dS:=aH.out;have dU:=bI.out;have dV:=cA4 aC.out))
  refine bodyPost_ret (results_cell_row rfl _ _ bH 25 #[.int .i64 (wrap64 (1+aG)),.int .i64 (wrap64 (1+bQ)),.int .i64 (wrap64 ((wrap64 (1+aG))+bG)),aT] (0,0) _ rfl (bm aC.out) Tryd.underlying25 rfl (by kernel_rfl)) rfl ?_
  exact ⟨xW,IsS96.mv aD.out,IsS96.bl HB.out,km HK.out⟩
 rw [if_neg c5] at H
 have cD:=decide_eq_false c5;clear c5;simp only [Option.some.injEq,Prod.mk.injEq] at H;obtain ⟨rfl,rfl,rfl,rfl,rfl,rfl⟩:=H;go_enter Tryd.func76,Tryd.ntmps76
 try go_wp2_with (first|((with_reducible refine gD (N:=2) rfl ?_);refine bE (N:=2) (cs:=#[.int .i64 0,.int .i64 0,.int .i64 0,.int .i64 0]) (t:=25) ?_;intro bH hg eJ hbox hb;have aC:=aM (hbox);have bT:=gE hg (keep_size (km HK.out));have bU:=gE2 HW0.out hg (keep_size (km HK.out));have bI:=nL hg (IsS96.lt (show IsS96 w0 _ g aE aX bA from IsS96.mv aD.out));have aH:=nG hg (IsS96.lt (show IsS96 w0 _ g aE aX bA from IsS96.mv aD.out));replace aD:=aM (IsS96.below (IsS96.mv aD.out) hb);replace HK:=rU HK hb;replace HB:=aM (bS (IsS96.bl HB.out) hb);clear hb hbox hg)|((with_reducible refine gC (f:=60) rfl ?_);refine goesL_ (some 5) rfl rfl Tryd.func60 (by kernel_rfl) rfl #[.pointer (some ⟨g,0,none⟩),.int .i64 4] rfl xR ?_;(with_reducible refine (Z3.calls g aE aX bA 4 aG bM bN w0 _ ?side1 ?side2 A2.out).mono ?_);(case side1=>exact IsS96.mv aD.out);(case side2=>exact IsS96.bl HB.out);rintro e eK ⟨rfl,hi,hb,hk⟩;refine ⟨_,rfl,?_⟩;replace aC:=rP hk aC aH;replace HK:=aM (KeepBut.trans (km HK.out) hk (.inl rfl));replace HB:=aM (hb);replace aD:=aM (hi);(repeat first|clear hb|clear hk|clear hi))|((with_reducible refine gC (f:=60) rfl ?_);refine goesL_ (some 8) rfl rfl Tryd.func60 (by kernel_rfl) rfl #[.pointer (some ⟨g,0,none⟩),.int .i64 4] rfl xR ?_;(with_reducible refine (Z3.calls g aE bM bN 4 aT aV aW w0 _ ?side1 ?side2 A3.out).mono ?_);(case side1=>exact IsS96.mv aD.out);(case side2=>exact IsS96.bl HB.out);rintro e eL ⟨rfl,hi,hb,hk⟩;refine ⟨_,rfl,?_⟩;replace aC:=rP hk aC aH;replace HK:=aM (KeepBut.trans (km HK.out) hk (.inl rfl));replace HB:=aM (hb);replace aD:=aM (hi);(repeat first|clear hb|clear hk|clear hi))|((with_reducible refine gD (N:=3) rfl ?_);refine bE (N:=3) (cs:=#[.int .i64 0,.int .i64 0,.int .i64 0,.int .i64 0]) (t:=25) ?_;intro aI hg eM hbox hb;have aA:=aM (hbox);have bV:=gE hg (keep_size (km HK.out));have bW:=gE2 HW0.out hg (keep_size (km HK.out));have aJ:=nM hg aC;have aK:=nH hg aC;have bJ:=nL hg (IsS96.lt (show IsS96 w0 _ g aE aV aW from IsS96.mv aD.out));have aN:=nG hg (IsS96.lt (show IsS96 w0 _ g aE aV aW from IsS96.mv aD.out));replace aD:=aM (IsS96.below (IsS96.mv aD.out) hb);replace aC:=rB aC hb;replace HK:=rU HK hb;replace HB:=aM (bS (IsS96.bl HB.out) hb);clear hb hbox hg;have dW:=aK.out;have dX:=aJ.out;have dY:=aN.out;have dZ:=bJ.out;have eA:=cA4 aA.out))
 refine nW (fun W=>Aside0 (W.heap[bH]?=some (.cells #[.int .i64 0,.int .i64 0,.int .i64 0,.int .i64 0] 25 (0,0)))∧Aside0 (W.heap[aI]?=some (.cells #[.int .i64 (wrap64 (1+aG)),.int .i64 0,.int .i64 0,aT] 25 (0,0)))∧Aside0 (IsS96 w0 W g aE aV aW)∧Aside0 (KeepBut w W g none)∧Aside0 (Below w0.heap.size w0 W)) ⟨⟨fm aC.out⟩,⟨bm aA.out⟩,⟨IsS96.mv aD.out⟩,⟨km HK.out⟩,⟨IsS96.bl HB.out⟩⟩ ?_
 intro dL nn_;replace aC:=nn_.1;replace aA:=nn_.2.1;replace aD:=nn_.2.2.1;replace HK:=nn_.2.2.2.1;replace HB:=nn_.2.2.2.2;clear nn_;replace aC:=aM (blk_drew aC.out);replace aA:=aM (blk_drew aA.out);replace aD:=aM (IsS96.drew aD.out);replace HK:=aM (keep_drew HK.out);replace HB:=aM (below_drew1 HB.out);refine start_ (n:=7) (S:=fun w'=>cS4 w' aI (.int .i64 (wrap64 (1+aG))) (.int .i64 0) (.int .i64 0) (.int .i64 aT)) (ds:=[6]) (dn 7 0) (by kernel_rfl) rfl rfl ⟨cI aA.out 0,cI aA.out 1,cI aA.out 2,cI aA.out 3⟩ (fun hHeld=>?_)
 generalize dL.drew=eN at aC aA aD HK HB hHeld ⊢
 refine pure_ (i:=0) (N:=some 10) (v:=?_) (a':=?_) (bv 7 1) rfl rfl (by kernel_rfl) (fun _ _ _ h=>h) (Or.inl ⟨by rfl,?_⟩) ?_ ?_
 rotate_left
 ·intro w'
  go_simp
  with_reducible rfl
 rotate_left
 ·simp only [Act.put,sA,sZ,sS,i64_w,i32_w]
  rfl
 refine pure_ (i:=2) (N:=some 12) (v:=?_) (a':=?_) (bv 7 5) rfl rfl (by kernel_rfl) (fun _ _ _ h=>h) (Or.inl ⟨by rfl,?_⟩) ?_ ?_
 rotate_left
 ·intro w'
  go_simp
  with_reducible rfl
 rotate_left
 ·simp only [Act.put,sA,sZ,sS,i64_w,i32_w]
  rfl
 refine take_ (i:=1) (N:=some 11) (v:=?_) (a':=?_) (bv 7 7) rfl rfl (by kernel_rfl) (fun _ _ _ h=>h) (Or.inl ⟨by rfl,?_⟩) hHeld ?_ ?_
 rotate_left
 ·rintro w' ⟨s0,s1,s2,s3⟩
  go_simp
  with_reducible rfl
 rotate_left
 ·simp only [Act.put,sA,sZ,sS,i64_w,i32_w]
  rfl
 refine one_ (i:=3) (N:=some 13) (bv 7 15) rfl rfl (by kernel_rfl) (by decide) (fun K hK=>?_)
 refine goes_ Tryd.func60 (by kernel_rfl) rfl #[.pointer (some ⟨g,0,none⟩),.int .i64 3] (by rfl) rfl rfl xR ?_
 with_reducible refine (Z3.calls g aE aV aW 3 bG bO bP w0 _ ?side1 ?side2 A4.out).mono ?_
 (case side1=>exact IsS96.mv aD.out)
 (case side2=>exact IsS96.bl HB.out)
 rintro e dM ⟨rfl,hi,hb,hk⟩;refine ⟨_,rfl,?_⟩;replace aC:=rP hk aC aH;replace aA:=rP hk aA aN;replace HK:=aM (KeepBut.trans (km HK.out) hk (.inl rfl));replace HB:=aM (hb);replace aD:=aM (hi)
 (try clear hb)
 (try clear hk)
 (try clear hi)
 refine hK.out _ _ ⟨cI aA.out 0,cI aA.out 1,cI aA.out 2,cI aA.out 3⟩ (fun hHeld=>?_)
 clear hK K;refine norm_ (a':=?_) ?_ ?_;rotate_left
 ·show Act.put _ (some 13) _=_
  simp only [Act.put,sA,sZ,sS,i64_w,i32_w]
  rfl
 refine pure_ (i:=4) (N:=some 14) (v:=?_) (a':=?_) (bv 7 31) rfl rfl (by kernel_rfl) (fun _ _ _ h=>h) (Or.inl ⟨by rfl,?_⟩) ?_ ?_
 rotate_left
 ·intro w'
  go_simp
  with_reducible rfl
 rotate_left
 ·simp only [Act.put,sA,sZ,sS,i64_w,i32_w]
  rfl
 refine pure_ (i:=5) (N:=some 15) (v:=?_) (a':=?_) (bv 7 63) rfl rfl (by kernel_rfl) (fun _ _ _ h=>h) (Or.inl ⟨by rfl,?_⟩) ?_ ?_
 rotate_left
 ·intro w'
  go_simp
  with_reducible rfl
 rotate_left
 ·simp only [Act.put,sA,sZ,sS,i64_w,i32_w]
  rfl
 refine last_ (i:=6) (N:=none) (bv 7 127) rfl rfl (by kernel_rfl) (by decide) (fun K hK=>?_)
 have eG:=cI aA.out 2;have hfs33:=bF aA.out 2;have hns33_0:=aJ.out;have hms33_0:=aK.out;refine skip_ (w1:=?_) (by rfl) rfl ?_ ?_
 rotate_left
 ·go_simp
  rfl
 refine hK.out _ _ ?_;clear hK K;refine done_ (by kernel_rfl) ?_
 have dB:dM.cell? ⟨aI,0,none⟩=some (.int .i64 (wrap64 (1+aG))):=cI aA.out 0;have dC:=cI aA.out 1;have dD:=cI aA.out 2;have dE:=cI aA.out 3;have dF:=bF aA.out 0;have dG:=bF aA.out 1;have dH:=bF aA.out 2;have dI:=bF aA.out 3;have eB:=aH.out;have eC:=bI.out;have eD:=cA4 aC.out
 try go_wp2
 refine bodyPost_ret (results_cell_row rfl _ _ bH 25 #[.int .i64 (wrap64 (1+aG)),.int .i64 0,.int .i64 (wrap64 ((wrap64 (1+aG))+bG)),aT] (0,0) _ rfl (bm aC.out) Tryd.underlying25 rfl (by kernel_rfl)) rfl ?_
 exact ⟨xW,IsS96.mv aD.out,IsS96.bl HB.out,km HK.out⟩

def Z51.f (aE:List Int) (aI aJ:Int):Option (Int × Int × Int × Int × Int × Int × Int × Bool × Int × Int):=(Z3.f aE aI aJ 4).bind fun aD=>((Z3.f aE aD.2.1 aD.2.2 4).bind fun aA=>(if aA.1=0 then (some (2,0,0,0,0,0,0,false,aA.2.1,aA.2.2)) else (if aA.1=1 then ((Z44.f aE aA.2.1 aA.2.2 3).bind fun aG=>(some (3,aD.1,0,0,0,0,0,!aG.1,aG.2.1,aG.2.2))) else ((Z69.f aE aA.2.1 aA.2.2).bind fun aC=>((Z3.f aE aC.2.2.2.2.1 aC.2.2.2.2.2 4).bind fun aH=>(some (1,aD.1,aC.1,aC.2.1,aC.2.2.1,aC.2.2.2.1,aH.1,false,aH.2.1,aH.2.2)))))))
set_option maxHeartbeats 60000000 in
set_option maxRecDepth 100000 in
theorem Z51.calls (g:Nat) (aE:List Int) (aH aI r1 r2 r3 r4 r5 r6 r7:Int) (r8:Bool) (r9 bL:Int) (w0 w:World) (hI:IsS96 w0 w g aE aH aI) (hB:Below w0.heap.size w0 w) (h:Z51.f aE aH aI=some (r1,r2,r3,r4,r5,r6,r7,r8,r9,bL)) :
  Calls Tryd.prog 49 #[.pointer (some ⟨g,0,none⟩)] w fun e w'=>e=.returned (.agg #[r1,r2,r3,r4,r5,r6,r7,r8])∧IsS96 w0 w' g aE r9 bL∧Below w0.heap.size w0 w'∧KeepBut w w' g none:=by
 have cX:=Tryd.underlying27;have aD:=aM hI;have HK:=aM (KeepBut.refl w g none);have HL:=aM hB.size;clear hI;have HW0:=aM hB.size;have HB:=aM hB;clear hB;have H:((Z3.f aE aH aI 4).bind fun aW=>((Z3.f aE aW.2.1 aW.2.2 4).bind fun aJ=>(if aJ.1=0 then (some (2,0,0,0,0,0,0,false,aJ.2.1,aJ.2.2)) else (if aJ.1=1 then ((Z44.f aE aJ.2.1 aJ.2.2 3).bind fun bH=>(some (3,aW.1,0,0,0,0,0,!bH.1,bH.2.1,bH.2.2))) else ((Z69.f aE aJ.2.1 aJ.2.2).bind fun aN=>((Z3.f aE aN.2.2.2.2.1 aN.2.2.2.2.2 4).bind fun bI=>(some (1,aW.1,aN.1,aN.2.1,aN.2.2.1,aN.2.2.2.1,bI.1,false,bI.2.1,bI.2.2))))))))=some (r1,r2,r3,r4,r5,r6,r7,r8,r9,bL):=h
 clear h;obtain ⟨⟨aX,aT,aV⟩,cC,H⟩:=hB H
 try dsimp only at H
 have A2:=aM cC;clear cC;obtain ⟨⟨aG,bA,bD⟩,cD,H⟩:=hB H
 try dsimp only at H
 have A3:=aM cD;clear cD
 by_cases c4:aG=0
 case pos =>
  rw [if_pos c4] at H
  have cE:(aG == 0)=true:=beq_iff_eq.mpr c4;have cG:(aG != 0)=false:=bne_eq_false_iff_eq.mpr c4;clear c4;simp only [Option.some.injEq,Prod.mk.injEq] at H;obtain ⟨rfl,rfl,rfl,rfl,rfl,rfl,rfl,rfl,rfl,rfl⟩:=H;go_enter Tryd.func49,Tryd.ntmps49
  go_wp2_with (first|((with_reducible refine gD (N:=2) rfl ?_);refine bE (N:=2) (cs:=#[.int .i64 0,.int .i64 0,.int .i64 0,.int .i64 0,.int .i64 0,.int .i64 0,.int .i64 0,.bool false]) (t:=27) ?_;intro aQ hg w5 hbox hb;have aA:=aM (hbox);have bJ:=gE hg (keep_size (km HK.out));have bK:=gE2 HW0.out hg (keep_size (km HK.out));have aK:=nL hg (IsS96.lt (show IsS96 w0 _ g aE aH aI from IsS96.mv aD.out));have aC:=nG hg (IsS96.lt (show IsS96 w0 _ g aE aH aI from IsS96.mv aD.out));replace aD:=aM (IsS96.below (IsS96.mv aD.out) hb);replace HK:=rU HK hb;replace HB:=aM (bS (IsS96.bl HB.out) hb);clear hb hbox hg)|((with_reducible refine gC (f:=60) rfl ?_);refine goesL_ (some 5) rfl rfl Tryd.func60 (by kernel_rfl) rfl #[.pointer (some ⟨g,0,none⟩),.int .i64 4] rfl xR ?_;(with_reducible refine (Z3.calls g aE aH aI 4 aX aT aV w0 _ ?side1 ?side2 A2.out).mono ?_);(case side1=>exact IsS96.mv aD.out);(case side2=>exact IsS96.bl HB.out);rintro e w6 ⟨rfl,hi,hb,hk⟩;refine ⟨_,rfl,?_⟩;replace aA:=rP hk aA aC;replace HK:=aM (KeepBut.trans (km HK.out) hk (.inl rfl));replace HB:=aM (hb);replace aD:=aM (hi);(repeat first|clear hb|clear hk|clear hi))|((with_reducible refine gC (f:=60) rfl ?_);refine goesL_ (some 7) rfl rfl Tryd.func60 (by kernel_rfl) rfl #[.pointer (some ⟨g,0,none⟩),.int .i64 4] rfl xR ?_;(with_reducible refine (Z3.calls g aE aT aV 4 aG bA bD w0 _ ?side1 ?side2 A3.out).mono ?_);(case side1=>exact IsS96.mv aD.out);(case side2=>exact IsS96.bl HB.out);rintro e w7 ⟨rfl,hi,hb,hk⟩;refine ⟨_,rfl,?_⟩;replace aA:=rP hk aA aC;replace HK:=aM (KeepBut.trans (km HK.out) hk (.inl rfl));replace HB:=aM (hb);replace aD:=aM (hi);(repeat first|clear hb|clear hk|clear hi);have cY:=aC.out;have dA:=aK.out;have dB:=cA8 aA.out))
  refine bodyPost_ret (results_cell_row rfl _ _ aQ 27 #[.int .i64 2,.int .i64 0,.int .i64 0,.int .i64 0,.int .i64 0,.int .i64 0,.int .i64 0,.bool false] (0,0) _ rfl (bm aA.out) Tryd.underlying27 rfl (by kernel_rfl)) rfl ?_
  exact ⟨xW,IsS96.mv aD.out,IsS96.bl HB.out,km HK.out⟩
 rw [if_neg c4] at H
 have cE:(aG == 0)=false:=beq_eq_false_iff_ne.mpr c4;have cG:(aG != 0)=true:=bne_iff_ne.mpr c4
 by_cases bG:aG=1
 case pos =>
  rw [if_pos bG] at H
  have bZ:(aG == 1)=true:=beq_iff_eq.mpr bG;have cA:(aG != 1)=false:=bne_eq_false_iff_eq.mpr bG;clear bG;obtain ⟨⟨bM,cH,cK⟩,bN,H⟩:=hB H
  try dsimp only at H
  have cO:=aM bN;clear bN;simp only [Option.some.injEq,Prod.mk.injEq] at H;obtain ⟨rfl,rfl,rfl,rfl,rfl,rfl,rfl,rfl,rfl,rfl⟩:=H;go_enter Tryd.func49,Tryd.ntmps49
  go_wp2_with (first|((with_reducible refine gD (N:=2) rfl ?_);refine bE (N:=2) (cs:=#[.int .i64 0,.int .i64 0,.int .i64 0,.int .i64 0,.int .i64 0,.int .i64 0,.int .i64 0,.bool false]) (t:=27) ?_;intro aQ hg dC hbox hb;have aA:=aM (hbox);have bJ:=gE hg (keep_size (km HK.out));have bK:=gE2 HW0.out hg (keep_size (km HK.out));have aK:=nL hg (IsS96.lt (show IsS96 w0 _ g aE aH aI from IsS96.mv aD.out));have aC:=nG hg (IsS96.lt (show IsS96 w0 _ g aE aH aI from IsS96.mv aD.out));replace aD:=aM (IsS96.below (IsS96.mv aD.out) hb);replace HK:=rU HK hb;replace HB:=aM (bS (IsS96.bl HB.out) hb);clear hb hbox hg)|((with_reducible refine gC (f:=60) rfl ?_);refine goesL_ (some 5) rfl rfl Tryd.func60 (by kernel_rfl) rfl #[.pointer (some ⟨g,0,none⟩),.int .i64 4] rfl xR ?_;(with_reducible refine (Z3.calls g aE aH aI 4 aX aT aV w0 _ ?side1 ?side2 A2.out).mono ?_);(case side1=>exact IsS96.mv aD.out);(case side2=>exact IsS96.bl HB.out);rintro e dD ⟨rfl,hi,hb,hk⟩;refine ⟨_,rfl,?_⟩;replace aA:=rP hk aA aC;replace HK:=aM (KeepBut.trans (km HK.out) hk (.inl rfl));replace HB:=aM (hb);replace aD:=aM (hi);(repeat first|clear hb|clear hk|clear hi))|((with_reducible refine gC (f:=60) rfl ?_);refine goesL_ (some 7) rfl rfl Tryd.func60 (by kernel_rfl) rfl #[.pointer (some ⟨g,0,none⟩),.int .i64 4] rfl xR ?_;(with_reducible refine (Z3.calls g aE aT aV 4 aG bA bD w0 _ ?side1 ?side2 A3.out).mono ?_);(case side1=>exact IsS96.mv aD.out);(case side2=>exact IsS96.bl HB.out);rintro e dE ⟨rfl,hi,hb,hk⟩;refine ⟨_,rfl,?_⟩;replace aA:=rP hk aA aC;replace HK:=aM (KeepBut.trans (km HK.out) hk (.inl rfl));replace HB:=aM (hb);replace aD:=aM (hi);(repeat first|clear hb|clear hk|clear hi))|((with_reducible refine gC (f:=56) rfl ?_);refine goesL_ (some 15) rfl rfl Tryd.func56 (by kernel_rfl) rfl #[.pointer (some ⟨g,0,none⟩),.int .i64 3] rfl xR ?_;(with_reducible refine (Z44.calls g aE bA bD 3 bM cH cK w0 _ ?side1 ?side2 cO.out).mono ?_);(case side1=>exact IsS96.mv aD.out);(case side2=>exact IsS96.bl HB.out);rintro e dF ⟨rfl,hi,hb,hk⟩;refine ⟨_,rfl,?_⟩;replace aA:=rP hk aA aC;replace HK:=aM (KeepBut.trans (km HK.out) hk (.inl rfl));replace HB:=aM (hb);replace aD:=aM (hi);(repeat first|clear hb|clear hk|clear hi);have cR:=aC.out;have cS:=aK.out;have cT:=cA8 aA.out))
  refine bodyPost_ret (results_cell_row rfl _ _ aQ 27 #[.int .i64 3,aX,.int .i64 0,.int .i64 0,.int .i64 0,.int .i64 0,.int .i64 0,.bool (!bM)] (0,0) _ rfl (bm aA.out) Tryd.underlying27 rfl (by kernel_rfl)) rfl ?_
  exact ⟨xW,IsS96.mv aD.out,IsS96.bl HB.out,km HK.out⟩
 rw [if_neg bG] at H
 have bZ:(aG == 1)=false:=beq_eq_false_iff_ne.mpr bG;have cA:(aG != 1)=true:=bne_iff_ne.mpr bG;obtain ⟨⟨bO,bP,bQ,bT,bU,bV⟩,bW,H⟩:=hB H
 try dsimp only at H
 have cP:=aM bW;clear bW;obtain ⟨⟨bX,cL,cN⟩,bY,H⟩:=hB H
 try dsimp only at H
 have cQ:=aM bY;clear bY;simp only [Option.some.injEq,Prod.mk.injEq] at H;obtain ⟨rfl,rfl,rfl,rfl,rfl,rfl,rfl,rfl,rfl,rfl⟩:=H;go_enter Tryd.func49,Tryd.ntmps49
 go_wp2_with (first|((with_reducible refine gD (N:=2) rfl ?_);refine bE (N:=2) (cs:=#[.int .i64 0,.int .i64 0,.int .i64 0,.int .i64 0,.int .i64 0,.int .i64 0,.int .i64 0,.bool false]) (t:=27) ?_;intro aQ hg dG hbox hb;have aA:=aM (hbox);have bJ:=gE hg (keep_size (km HK.out));have bK:=gE2 HW0.out hg (keep_size (km HK.out));have aK:=nL hg (IsS96.lt (show IsS96 w0 _ g aE aH aI from IsS96.mv aD.out));have aC:=nG hg (IsS96.lt (show IsS96 w0 _ g aE aH aI from IsS96.mv aD.out));replace aD:=aM (IsS96.below (IsS96.mv aD.out) hb);replace HK:=rU HK hb;replace HB:=aM (bS (IsS96.bl HB.out) hb);clear hb hbox hg)|((with_reducible refine gC (f:=60) rfl ?_);refine goesL_ (some 5) rfl rfl Tryd.func60 (by kernel_rfl) rfl #[.pointer (some ⟨g,0,none⟩),.int .i64 4] rfl xR ?_;(with_reducible refine (Z3.calls g aE aH aI 4 aX aT aV w0 _ ?side1 ?side2 A2.out).mono ?_);(case side1=>exact IsS96.mv aD.out);(case side2=>exact IsS96.bl HB.out);rintro e dH ⟨rfl,hi,hb,hk⟩;refine ⟨_,rfl,?_⟩;replace aA:=rP hk aA aC;replace HK:=aM (KeepBut.trans (km HK.out) hk (.inl rfl));replace HB:=aM (hb);replace aD:=aM (hi);(repeat first|clear hb|clear hk|clear hi))|((with_reducible refine gC (f:=60) rfl ?_);refine goesL_ (some 7) rfl rfl Tryd.func60 (by kernel_rfl) rfl #[.pointer (some ⟨g,0,none⟩),.int .i64 4] rfl xR ?_;(with_reducible refine (Z3.calls g aE aT aV 4 aG bA bD w0 _ ?side1 ?side2 A3.out).mono ?_);(case side1=>exact IsS96.mv aD.out);(case side2=>exact IsS96.bl HB.out);rintro e dI ⟨rfl,hi,hb,hk⟩;refine ⟨_,rfl,?_⟩;replace aA:=rP hk aA aC;replace HK:=aM (KeepBut.trans (km HK.out) hk (.inl rfl));replace HB:=aM (hb);replace aD:=aM (hi);(repeat first|clear hb|clear hk|clear hi))|((with_reducible refine gC (f:=76) rfl ?_);refine goesL_ (some 20) rfl rfl Tryd.func76 (by kernel_rfl) rfl #[.pointer (some ⟨g,0,none⟩)] rfl xR ?_;(with_reducible refine (Z69.calls g aE bA bD bO bP bQ bT bU bV w0 _ ?side1 ?side2 cP.out).mono ?_);(case side1=>exact IsS96.mv aD.out);(case side2=>exact IsS96.bl HB.out);rintro e dJ ⟨rfl,hi,hb,hk⟩;refine ⟨_,rfl,?_⟩;replace aA:=rP hk aA aC;replace HK:=aM (KeepBut.trans (km HK.out) hk (.inl rfl));replace HB:=aM (hb);replace aD:=aM (hi);(repeat first|clear hb|clear hk|clear hi))|((with_reducible refine gC (f:=60) rfl ?_);refine goesL_ (some 22) rfl rfl Tryd.func60 (by kernel_rfl) rfl #[.pointer (some ⟨g,0,none⟩),.int .i64 4] rfl xR ?_;(with_reducible refine (Z3.calls g aE bU bV 4 bX cL cN w0 _ ?side1 ?side2 cQ.out).mono ?_);(case side1=>exact IsS96.mv aD.out);(case side2=>exact IsS96.bl HB.out);rintro e dK ⟨rfl,hi,hb,hk⟩;refine ⟨_,rfl,?_⟩;replace aA:=rP hk aA aC;replace HK:=aM (KeepBut.trans (km HK.out) hk (.inl rfl));replace HB:=aM (hb);replace aD:=aM (hi);(repeat first|clear hb|clear hk|clear hi);have cU:=aC.out;have cV:=aK.out;have cW:=cA8 aA.out))
 refine bodyPost_ret (results_cell_row rfl _ _ aQ 27 #[.int .i64 1,aX,bO,bP,bQ,bT,bX,.bool false] (0,0) _ rfl (bm aA.out) Tryd.underlying27 rfl (by kernel_rfl)) rfl ?_
 exact ⟨xW,IsS96.mv aD.out,IsS96.bl HB.out,km HK.out⟩

def Z18.f (aC:List Int) (aD aE:Int) (l1:List Int):Option (Int × Int × Int):=(Z3.f aC aD aE (l1.length:Int)).bind fun aA=>(if 0≤aA.1 then (if aA.1<(l1.length:Int) then (some (rd l1 aA.1,aA.2.1,aA.2.2)) else (none)) else (none))
set_option maxHeartbeats 60000000 in
set_option maxRecDepth 100000 in
theorem Z18.calls (g:Nat) (aC:List Int) (aE aG:Int) (A1:Option Addr) (c1:Nat) (l1:List Int) (r1 r2 r3:Int) (w0 w:World) (hI:IsS96 w0 w g aC aE aG) (hB:Below w0.heap.size w0 w) (hr1:Kd.C (Kd.int .i64) w A1 l1.length l1) (hc1:l1.length≤c1) (aK:∀ ad,A1=some ad→0<l1.length→ad.block≠g) (h:Z18.f aC aE aG l1=some (r1,r2,r3)) :
  Calls Tryd.prog 51 #[.pointer (some ⟨g,0,none⟩),.slice A1 l1.length c1] w fun e w'=>e=.returned (.int .i64 r1)∧IsS96 w0 w' g aC r2 r3∧Below w0.heap.size w0 w'∧KeepBut w w' g none:=by
 have bA:=aM hr1;have bH:=aM hc1;clear hr1 hc1;have aN:=aM hI;have HK:=aM (KeepBut.refl w g none);have HL:=aM hB.size;clear hI;have HW0:=aM hB.size;have HB:=aM hB;clear hB;have H:((Z3.f aC aE aG (l1.length:Int)).bind fun aA=>(if 0≤aA.1 then (if aA.1<(l1.length:Int) then (some (rd l1 aA.1,aA.2.1,aA.2.2)) else (none)) else (none)))=some (r1,r2,r3):=h
 clear h;obtain ⟨⟨aH,aV,aW⟩,aT,H⟩:=hB H
 try dsimp only at H
 have A3:=aM aT;clear aT;obtain ⟨bD,H⟩:=gI H;obtain ⟨bG,H⟩:=gI H;simp only [Option.some.injEq,Prod.mk.injEq] at H;obtain ⟨rfl,rfl,rfl⟩:=H;go_enter Tryd.func51,Tryd.ntmps51
 go_wp2_with (((with_reducible refine gC (f:=60) rfl ?_);refine goesL_ (some 9) rfl rfl Tryd.func60 (by kernel_rfl) rfl #[.pointer (some ⟨g,0,none⟩),.int .i64 (l1.length:Int)] rfl xR ?_;(with_reducible refine (Z3.calls g aC aE aG (l1.length:Int) aH aV aW w0 _ ?side1 ?side2 A3.out).mono ?_);(case side1=>exact IsS96.mv aN.out);(case side2=>exact IsS96.bl HB.out);rintro e w6 ⟨rfl,hi,hb,hk⟩;refine ⟨_,rfl,?_⟩;replace HK:=aM (KeepBut.trans (km HK.out) hk (.inl rfl));replace HB:=aM (hb);replace aN:=aM (hi);(repeat first|clear hb|clear hk|clear hi);have aI:0≤(aH:Int):=dT;have aJ:aH<(l1.length:Int):=dT;obtain ⟨aQ,aX,aD⟩:=Kd.at_int bA.out aH aI aJ;cases aX;replace aD:=keep_cell HK.out aD (by (rw [add_block];exact aK _ rfl (by omega)));replace aI:=eq_true aI;replace aJ:=eq_true aJ))
 go_ret
 exact ⟨xW,IsS96.mv aN.out,IsS96.bl HB.out,km HK.out⟩

def Z76.f (aD:List Int) (aJ aK:Int):Option (Int × Int × Int × Int × Int × Int):=(Z69.f aD aJ aK).bind fun aA=>((Z3.f aD aA.2.2.2.2.1 aA.2.2.2.2.2 10).bind fun aC=>(if aC.1=0 then ((Z18.f aD aC.2.1 aC.2.2 (([0,9,10]:List Int))).bind fun aE=>(some (aE.1,aA.2.1,aA.2.2.1,aA.2.2.2.1,aE.2.1,aE.2.2))) else (if aC.1=1 then ((Z18.f aD aC.2.1 aC.2.2 (([(-1),0,20,21]:List Int))).bind fun aG=>(some (aA.1,aG.1,aA.2.2.1,aA.2.2.2.1,aG.2.1,aG.2.2))) else (if aC.1=2 then ((Z18.f aD aC.2.1 aC.2.2 (([0,9,10]:List Int))).bind fun aH=>(some (aA.1,aA.2.1,aH.1,aA.2.2.2.1,aH.2.1,aH.2.2))) else (if aC.1=3 then ((Z18.f aD aC.2.1 aC.2.2 (([(-1),3,4]:List Int))).bind fun aI=>(some (aA.1,aA.2.1,aA.2.2.1,aI.1,aI.2.1,aI.2.2))) else (some (aA.1,aA.2.1,aA.2.2.1,aA.2.2.2.1,aC.2.1,aC.2.2)))))))
set_option maxHeartbeats 60000000 in
set_option maxRecDepth 100000 in
theorem Z76.calls (g:Nat) (aD:List Int) (aV aW r1 r2 r3 r4 r5 r6:Int) (w0 w:World) (hI:IsS96 w0 w g aD aV aW) (hB:Below w0.heap.size w0 w) (h:Z76.f aD aV aW=some (r1,r2,r3,r4,r5,r6)) :
  Calls Tryd.prog 75 #[.pointer (some ⟨g,0,none⟩)] w fun e w'=>e=.returned (.agg #[r1,r2,r3,r4])∧IsS96 w0 w' g aD r5 r6∧Below w0.heap.size w0 w'∧KeepBut w w' g none:=by
 have gO:=Tryd.underlying25;have aC:=aM hI;have HK:=aM (KeepBut.refl w g none);have HL:=aM hB.size;clear hI;have HW0:=aM hB.size;have HB:=aM hB;clear hB;have H:((Z69.f aD aV aW).bind fun aJ=>((Z3.f aD aJ.2.2.2.2.1 aJ.2.2.2.2.2 10).bind fun aX=>(if aX.1=0 then ((Z18.f aD aX.2.1 aX.2.2 (([0,9,10]:List Int))).bind fun bU=>(some (bU.1,aJ.2.1,aJ.2.2.1,aJ.2.2.2.1,bU.2.1,bU.2.2))) else (if aX.1=1 then ((Z18.f aD aX.2.1 aX.2.2 (([(-1),0,20,21]:List Int))).bind fun bV=>(some (aJ.1,bV.1,aJ.2.2.1,aJ.2.2.2.1,bV.2.1,bV.2.2))) else (if aX.1=2 then ((Z18.f aD aX.2.1 aX.2.2 (([0,9,10]:List Int))).bind fun bW=>(some (aJ.1,aJ.2.1,bW.1,aJ.2.2.2.1,bW.2.1,bW.2.2))) else (if aX.1=3 then ((Z18.f aD aX.2.1 aX.2.2 (([(-1),3,4]:List Int))).bind fun bX=>(some (aJ.1,aJ.2.1,aJ.2.2.1,bX.1,bX.2.1,bX.2.2))) else (some (aJ.1,aJ.2.1,aJ.2.2.1,aJ.2.2.2.1,aX.2.1,aX.2.2))))))))=some (r1,r2,r3,r4,r5,r6):=h
 clear h;obtain ⟨⟨bA,bD,bG,bH,aQ,aT⟩,dK,H⟩:=hB H
 try dsimp only at H
 have A2:=aM dK;clear dK;obtain ⟨⟨aI,bI,bJ⟩,dL,H⟩:=hB H
 try dsimp only at H
 have A3:=aM dL;clear dL
 by_cases c4:aI=0
 case pos =>
  rw [if_pos c4] at H
  have dN:(aI == 0)=true:=beq_iff_eq.mpr c4;have dO:(aI != 0)=false:=bne_eq_false_iff_eq.mpr c4;clear c4;obtain ⟨cO,bY⟩:∃ y_:List Int,y_=(([0,9,10]:List Int)):=⟨_,rfl⟩;replace H:((Z18.f aD bI bJ cO).bind fun bU=>(some (bU.1,bD,bG,bH,bU.2.1,bU.2.2)))=some (r1,r2,r3,r4,r5,r6):=by (rw [bY];with_reducible exact H)
  have cS:=aM bY;clear bY;obtain ⟨⟨cW,dP,dQ⟩,dM,H⟩:=hB H
  try dsimp only at H
  have A5:=aM dM;clear dM;simp only [Option.some.injEq,Prod.mk.injEq] at H;obtain ⟨rfl,rfl,rfl,rfl,rfl,rfl⟩:=H;go_enter Tryd.func75,Tryd.ntmps75
  go_wp2_with (first|((with_reducible refine gD (N:=2) rfl ?_);refine bE (N:=2) (cs:=#[.int .i64 0,.int .i64 0,.int .i64 0,.int .i64 0]) (t:=25) ?_;intro bM hg w6 hbox hb;have aA:=aM (hbox);have cD:=gE hg (keep_size (km HK.out));have cE:=gE2 HW0.out hg (keep_size (km HK.out));have bK:=nL hg (IsS96.lt (show IsS96 w0 _ g aD aV aW from IsS96.mv aC.out));have aG:=nG hg (IsS96.lt (show IsS96 w0 _ g aD aV aW from IsS96.mv aC.out));replace aC:=aM (IsS96.below (IsS96.mv aC.out) hb);replace HK:=rU HK hb;replace HB:=aM (bS (IsS96.bl HB.out) hb);clear hb hbox hg)|((with_reducible refine gC (f:=76) rfl ?_);refine goesL_ (some 5) rfl rfl Tryd.func76 (by kernel_rfl) rfl #[.pointer (some ⟨g,0,none⟩)] rfl xR ?_;(with_reducible refine (Z69.calls g aD aV aW bA bD bG bH aQ aT w0 _ ?side1 ?side2 A2.out).mono ?_);(case side1=>exact IsS96.mv aC.out);(case side2=>exact IsS96.bl HB.out);rintro e w7 ⟨rfl,hi,hb,hk⟩;refine ⟨_,rfl,?_⟩;replace aA:=rP hk aA aG;replace HK:=aM (KeepBut.trans (km HK.out) hk (.inl rfl));replace HB:=aM (hb);replace aC:=aM (hi);(repeat first|clear hb|clear hk|clear hi))|((with_reducible refine gD (N:=3) rfl ?_);refine bE (N:=3) (cs:=#[.int .i64 0,.int .i64 0,.int .i64 0,.int .i64 0]) (t:=25) ?_;intro bN hg w8 hbox hb;have aE:=aM (hbox);have cG:=gE hg (keep_size (km HK.out));have cH:=gE2 HW0.out hg (keep_size (km HK.out));have aK:=nM hg aA;have aN:=nH hg aA;have bL:=nL hg (IsS96.lt (show IsS96 w0 _ g aD aQ aT from IsS96.mv aC.out));have aH:=nG hg (IsS96.lt (show IsS96 w0 _ g aD aQ aT from IsS96.mv aC.out));replace aC:=aM (IsS96.below (IsS96.mv aC.out) hb);replace aA:=rB aA hb;replace HK:=rU HK hb;replace HB:=aM (bS (IsS96.bl HB.out) hb);clear hb hbox hg;have gP:=aN.out;have gQ:=aK.out;have eN:=aH.out;have eO:=bL.out;have eP:=cA4 aE.out)|((with_reducible refine gC (f:=60) rfl ?_);refine goesL_ (some 7) rfl rfl Tryd.func60 (by kernel_rfl) rfl #[.pointer (some ⟨g,0,none⟩),.int .i64 10] rfl xR ?_;(with_reducible refine (Z3.calls g aD aQ aT 10 aI bI bJ w0 _ ?side1 ?side2 A3.out).mono ?_);(case side1=>exact IsS96.mv aC.out);(case side2=>exact IsS96.bl HB.out);rintro e gV ⟨rfl,hi,hb,hk⟩;refine ⟨_,rfl,?_⟩;replace aA:=aM (KeepBut.blk hk (fm aA.out) aG.out (by simp));replace aE:=aM (KeepBut.blk hk (g':=bN) (o:=.cells #[bA,bD,bG,bH] 25 (0,0)) (bm aE.out) aH.out (by simp));replace HK:=aM (KeepBut.trans (km HK.out) hk (.inl rfl));replace HB:=aM (hb);replace aC:=aM (hi);(repeat first|clear hb|clear hk|clear hi))|((with_reducible refine gD (N:=11) rfl ?_);refine Kd.R_lit (Kd.int .i64) _ 3 ?hg (N:=11) ?hd (xs:=([0,9,10]:List Int)) (inner:=[.int .i64 0,.int .i64 9,.int .i64 10]) (ok:=fun _=>True) (okp:=fun _=>True) ?hr ?hp (fun _ hk=>hk) trivial (Below.refl _ _) (Nat.le_refl _) (by simp) ?_;(case hd=>rfl);(case hg=>rfl);(case hr=>(go_simp;done));(case hp=>exact (Reps.one (show Kd.M (Kd.int .i64) _ _ _ 0 [.int .i64 0] from rfl) (Reps.one (show Kd.M (Kd.int .i64) _ _ _ 9 [.int .i64 9] from rfl) (Reps.one (show Kd.M (Kd.int .i64) _ _ _ 10 [.int .i64 10] from rfl) (Reps.none _ _)))));intro gR gW ho14 hb hg_ hnew_;clear hg_ hnew_;(rw [← cS.out] at ho14);have bO:=aM (Kd.R_lower ho14 (keep_size (km HK.out)));replace aC:=aM (IsS96.below (IsS96.mv aC.out) hb);replace aA:=rB aA hb;replace aE:=rB aE hb;replace HK:=rU HK hb;replace HB:=aM (bS (IsS96.bl HB.out) hb);clear hb ho14;obtain ⟨dR,dS,dU⟩:=Kd.R_slice bO.out;subst dU)|((with_reducible refine gC (f:=51) rfl ?_);refine goesL_ (some 12) rfl rfl Tryd.func51 (by kernel_rfl) rfl #[.pointer (some ⟨g,0,none⟩),.slice dR cO.length dS] rfl xR ?_;(with_reducible refine (Z18.calls g aD bI bJ _ _ cO cW dP dQ w0 _ ?side1 ?side2 ?side3 ?side4 ?side5 A5.out).mono ?_);(case side1=>exact IsS96.mv aC.out);(case side2=>exact IsS96.bl HB.out);(case side3=>exact cM ((Kd.R_reads' bO.out).2.2));(case side4=>exact (Kd.R_reads' bO.out).2.1);(case side5=>exact far_slice (IsS96.own_ne aC.out bO.out (by decide)));rintro e gX ⟨rfl,hi,hb,hk⟩;refine ⟨_,rfl,?_⟩;replace aA:=rP hk aA aG;replace aE:=rP hk aE aH;replace bO:=aM (IsS96.rJ aD bI bJ (IsS96.mv aC.out) (kr bO.out) hk);replace HK:=aM (KeepBut.trans (km HK.out) hk (.inl rfl));replace HB:=aM (hb);replace aC:=aM (hi);(repeat first|clear hb|clear hk|clear hi);have eQ:=cA4 aE.out;have eR:=aG.out;have eS:=bK.out;have eT:=cA4 aA.out))
  refine bodyPost_ret (results_cell_row rfl _ _ bM 25 #[cW,bD,bG,bH] (0,0) _ rfl (bm aA.out) Tryd.underlying25 rfl (by kernel_rfl)) rfl ?_
  exact ⟨xW,IsS96.mv aC.out,IsS96.bl HB.out,km HK.out⟩
 rw [if_neg c4] at H
 have dN:(aI == 0)=false:=beq_eq_false_iff_ne.mpr c4;have dO:(aI != 0)=true:=bne_iff_ne.mpr c4
 by_cases cK:aI=1
 case pos =>
  rw [if_pos cK] at H
  have dE:(aI == 1)=true:=beq_iff_eq.mpr cK;have dF:(aI != 1)=false:=bne_eq_false_iff_eq.mpr cK;clear cK;obtain ⟨cP,bZ⟩:∃ y_:List Int,y_=(([(-1),0,20,21]:List Int)):=⟨_,rfl⟩;replace H:((Z18.f aD bI bJ cP).bind fun bV=>(some (bA,bV.1,bG,bH,bV.2.1,bV.2.2)))=some (r1,r2,r3,r4,r5,r6):=by (rw [bZ];with_reducible exact H)
  have cT:=aM bZ;clear bZ;obtain ⟨⟨cX,dV,dW⟩,cY,H⟩:=hB H
  try dsimp only at H
  have eK:=aM cY;clear cY;simp only [Option.some.injEq,Prod.mk.injEq] at H;obtain ⟨rfl,rfl,rfl,rfl,rfl,rfl⟩:=H;go_enter Tryd.func75,Tryd.ntmps75
  go_wp2_with (first|((with_reducible refine gD (N:=2) rfl ?_);refine bE (N:=2) (cs:=#[.int .i64 0,.int .i64 0,.int .i64 0,.int .i64 0]) (t:=25) ?_;intro bM hg gY hbox hb;have aA:=aM (hbox);have cD:=gE hg (keep_size (km HK.out));have cE:=gE2 HW0.out hg (keep_size (km HK.out));have bK:=nL hg (IsS96.lt (show IsS96 w0 _ g aD aV aW from IsS96.mv aC.out));have aG:=nG hg (IsS96.lt (show IsS96 w0 _ g aD aV aW from IsS96.mv aC.out));replace aC:=aM (IsS96.below (IsS96.mv aC.out) hb);replace HK:=rU HK hb;replace HB:=aM (bS (IsS96.bl HB.out) hb);clear hb hbox hg)|((with_reducible refine gC (f:=76) rfl ?_);refine goesL_ (some 5) rfl rfl Tryd.func76 (by kernel_rfl) rfl #[.pointer (some ⟨g,0,none⟩)] rfl xR ?_;(with_reducible refine (Z69.calls g aD aV aW bA bD bG bH aQ aT w0 _ ?side1 ?side2 A2.out).mono ?_);(case side1=>exact IsS96.mv aC.out);(case side2=>exact IsS96.bl HB.out);rintro e gZ ⟨rfl,hi,hb,hk⟩;refine ⟨_,rfl,?_⟩;replace aA:=rP hk aA aG;replace HK:=aM (KeepBut.trans (km HK.out) hk (.inl rfl));replace HB:=aM (hb);replace aC:=aM (hi);(repeat first|clear hb|clear hk|clear hi))|((with_reducible refine gD (N:=3) rfl ?_);refine bE (N:=3) (cs:=#[.int .i64 0,.int .i64 0,.int .i64 0,.int .i64 0]) (t:=25) ?_;intro bN hg hD hbox hb;have aE:=aM (hbox);have cG:=gE hg (keep_size (km HK.out));have cH:=gE2 HW0.out hg (keep_size (km HK.out));have aK:=nM hg aA;have aN:=nH hg aA;have bL:=nL hg (IsS96.lt (show IsS96 w0 _ g aD aQ aT from IsS96.mv aC.out));have aH:=nG hg (IsS96.lt (show IsS96 w0 _ g aD aQ aT from IsS96.mv aC.out));replace aC:=aM (IsS96.below (IsS96.mv aC.out) hb);replace aA:=rB aA hb;replace HK:=rU HK hb;replace HB:=aM (bS (IsS96.bl HB.out) hb);clear hb hbox hg;have eU:=aN.out;have eV:=aK.out;have eW:=aH.out;have eX:=bL.out;have eY:=cA4 aE.out)|((with_reducible refine gC (f:=60) rfl ?_);refine goesL_ (some 7) rfl rfl Tryd.func60 (by kernel_rfl) rfl #[.pointer (some ⟨g,0,none⟩),.int .i64 10] rfl xR ?_;(with_reducible refine (Z3.calls g aD aQ aT 10 aI bI bJ w0 _ ?side1 ?side2 A3.out).mono ?_);(case side1=>exact IsS96.mv aC.out);(case side2=>exact IsS96.bl HB.out);rintro e hH ⟨rfl,hi,hb,hk⟩;refine ⟨_,rfl,?_⟩;replace aA:=aM (KeepBut.blk hk (fm aA.out) aG.out (by simp));replace aE:=aM (KeepBut.blk hk (g':=bN) (o:=.cells #[bA,bD,bG,bH] 25 (0,0)) (bm aE.out) aH.out (by simp));replace HK:=aM (KeepBut.trans (km HK.out) hk (.inl rfl));replace HB:=aM (hb);replace aC:=aM (hi);(repeat first|clear hb|clear hk|clear hi))|((with_reducible refine gD (N:=17) rfl ?_);refine Kd.R_lit (Kd.int .i64) _ 3 ?hg (N:=17) ?hd (xs:=([(-1),0,20,21]:List Int)) (inner:=[.int .i64 (-1),.int .i64 0,.int .i64 20,.int .i64 21]) (ok:=fun _=>True) (okp:=fun _=>True) ?hr ?hp (fun _ hk=>hk) trivial (Below.refl _ _) (Nat.le_refl _) (by simp) ?_;(case hd=>rfl);(case hg=>rfl);(case hr=>(go_simp;done));(case hp=>exact (Reps.one (show Kd.M (Kd.int .i64) _ _ _ (-1) [.int .i64 (-1)] from rfl) (Reps.one (show Kd.M (Kd.int .i64) _ _ _ 0 [.int .i64 0] from rfl) (Reps.one (show Kd.M (Kd.int .i64) _ _ _ 20 [.int .i64 20] from rfl) (Reps.one (show Kd.M (Kd.int .i64) _ _ _ 21 [.int .i64 21] from rfl) (Reps.none _ _))))));intro gS hJ ho30 hb hg_ hnew_;clear hg_ hnew_;(rw [← cT.out] at ho30);have bP:=aM (Kd.R_lower ho30 (keep_size (km HK.out)));replace aC:=aM (IsS96.below (IsS96.mv aC.out) hb);replace aA:=rB aA hb;replace aE:=rB aE hb;replace HK:=rU HK hb;replace HB:=aM (bS (IsS96.bl HB.out) hb);clear hb ho30;obtain ⟨dX,dY,dZ⟩:=Kd.R_slice bP.out;subst dZ)|((with_reducible refine gC (f:=51) rfl ?_);refine goesL_ (some 18) rfl rfl Tryd.func51 (by kernel_rfl) rfl #[.pointer (some ⟨g,0,none⟩),.slice dX cP.length dY] rfl xR ?_;(with_reducible refine (Z18.calls g aD bI bJ _ _ cP cX dV dW w0 _ ?side1 ?side2 ?side3 ?side4 ?side5 eK.out).mono ?_);(case side1=>exact IsS96.mv aC.out);(case side2=>exact IsS96.bl HB.out);(case side3=>exact cM ((Kd.R_reads' bP.out).2.2));(case side4=>exact (Kd.R_reads' bP.out).2.1);(case side5=>exact far_slice (IsS96.own_ne aC.out bP.out (by decide)));rintro e hO ⟨rfl,hi,hb,hk⟩;refine ⟨_,rfl,?_⟩;replace aA:=rP hk aA aG;replace aE:=rP hk aE aH;replace bP:=aM (IsS96.rJ aD bI bJ (IsS96.mv aC.out) (kr bP.out) hk);replace HK:=aM (KeepBut.trans (km HK.out) hk (.inl rfl));replace HB:=aM (hb);replace aC:=aM (hi);(repeat first|clear hb|clear hk|clear hi);have eZ:=cA4 aE.out;have fA:=aG.out;have fB:=bK.out;have fC:=cA4 aA.out))
  refine bodyPost_ret (results_cell_row rfl _ _ bM 25 #[bA,cX,bG,bH] (0,0) _ rfl (bm aA.out) Tryd.underlying25 rfl (by kernel_rfl)) rfl ?_
  exact ⟨xW,IsS96.mv aC.out,IsS96.bl HB.out,km HK.out⟩
 rw [if_neg cK] at H
 have dE:(aI == 1)=false:=beq_eq_false_iff_ne.mpr cK;have dF:(aI != 1)=true:=bne_iff_ne.mpr cK
 by_cases cL:aI=2
 case pos =>
  rw [if_pos cL] at H
  have dG:(aI == 2)=true:=beq_iff_eq.mpr cL;have dH:(aI != 2)=false:=bne_eq_false_iff_eq.mpr cL;clear cL;obtain ⟨cQ,cA⟩:∃ y_:List Int,y_=(([0,9,10]:List Int)):=⟨_,rfl⟩;replace H:((Z18.f aD bI bJ cQ).bind fun bW=>(some (bA,bD,bW.1,bH,bW.2.1,bW.2.2)))=some (r1,r2,r3,r4,r5,r6):=by (rw [cA];with_reducible exact H)
  have cU:=aM cA;clear cA;obtain ⟨⟨dA,eA,eB⟩,dB,H⟩:=hB H
  try dsimp only at H
  have eL:=aM dB;clear dB;simp only [Option.some.injEq,Prod.mk.injEq] at H;obtain ⟨rfl,rfl,rfl,rfl,rfl,rfl⟩:=H;go_enter Tryd.func75,Tryd.ntmps75
  go_wp2_with (first|((with_reducible refine gD (N:=2) rfl ?_);refine bE (N:=2) (cs:=#[.int .i64 0,.int .i64 0,.int .i64 0,.int .i64 0]) (t:=25) ?_;intro bM hg hU hbox hb;have aA:=aM (hbox);have cD:=gE hg (keep_size (km HK.out));have cE:=gE2 HW0.out hg (keep_size (km HK.out));have bK:=nL hg (IsS96.lt (show IsS96 w0 _ g aD aV aW from IsS96.mv aC.out));have aG:=nG hg (IsS96.lt (show IsS96 w0 _ g aD aV aW from IsS96.mv aC.out));replace aC:=aM (IsS96.below (IsS96.mv aC.out) hb);replace HK:=rU HK hb;replace HB:=aM (bS (IsS96.bl HB.out) hb);clear hb hbox hg)|((with_reducible refine gC (f:=76) rfl ?_);refine goesL_ (some 5) rfl rfl Tryd.func76 (by kernel_rfl) rfl #[.pointer (some ⟨g,0,none⟩)] rfl xR ?_;(with_reducible refine (Z69.calls g aD aV aW bA bD bG bH aQ aT w0 _ ?side1 ?side2 A2.out).mono ?_);(case side1=>exact IsS96.mv aC.out);(case side2=>exact IsS96.bl HB.out);rintro e hX ⟨rfl,hi,hb,hk⟩;refine ⟨_,rfl,?_⟩;replace aA:=rP hk aA aG;replace HK:=aM (KeepBut.trans (km HK.out) hk (.inl rfl));replace HB:=aM (hb);replace aC:=aM (hi);(repeat first|clear hb|clear hk|clear hi))|((with_reducible refine gD (N:=3) rfl ?_);refine bE (N:=3) (cs:=#[.int .i64 0,.int .i64 0,.int .i64 0,.int .i64 0]) (t:=25) ?_;intro bN hg hY hbox hb;have aE:=aM (hbox);have cG:=gE hg (keep_size (km HK.out));have cH:=gE2 HW0.out hg (keep_size (km HK.out));have aK:=nM hg aA;have aN:=nH hg aA;have bL:=nL hg (IsS96.lt (show IsS96 w0 _ g aD aQ aT from IsS96.mv aC.out));have aH:=nG hg (IsS96.lt (show IsS96 w0 _ g aD aQ aT from IsS96.mv aC.out));replace aC:=aM (IsS96.below (IsS96.mv aC.out) hb);replace aA:=rB aA hb;replace HK:=rU HK hb;replace HB:=aM (bS (IsS96.bl HB.out) hb);clear hb hbox hg;have fD:=aN.out;have fE:=aK.out;have fF:=aH.out;have fG:=bL.out;have fH:=cA4 aE.out)|((with_reducible refine gC (f:=60) rfl ?_);refine goesL_ (some 7) rfl rfl Tryd.func60 (by kernel_rfl) rfl #[.pointer (some ⟨g,0,none⟩),.int .i64 10] rfl xR ?_;(with_reducible refine (Z3.calls g aD aQ aT 10 aI bI bJ w0 _ ?side1 ?side2 A3.out).mono ?_);(case side1=>exact IsS96.mv aC.out);(case side2=>exact IsS96.bl HB.out);rintro e hZ ⟨rfl,hi,hb,hk⟩;refine ⟨_,rfl,?_⟩;replace aA:=aM (KeepBut.blk hk (fm aA.out) aG.out (by simp));replace aE:=aM (KeepBut.blk hk (g':=bN) (o:=.cells #[bA,bD,bG,bH] 25 (0,0)) (bm aE.out) aH.out (by simp));replace HK:=aM (KeepBut.trans (km HK.out) hk (.inl rfl));replace HB:=aM (hb);replace aC:=aM (hi);(repeat first|clear hb|clear hk|clear hi))|((with_reducible refine gD (N:=23) rfl ?_);refine Kd.R_lit (Kd.int .i64) _ 3 ?hg (N:=23) ?hd (xs:=([0,9,10]:List Int)) (inner:=[.int .i64 0,.int .i64 9,.int .i64 10]) (ok:=fun _=>True) (okp:=fun _=>True) ?hr ?hp (fun _ hk=>hk) trivial (Below.refl _ _) (Nat.le_refl _) (by simp) ?_;(case hd=>rfl);(case hg=>rfl);(case hr=>(go_simp;done));(case hp=>exact (Reps.one (show Kd.M (Kd.int .i64) _ _ _ 0 [.int .i64 0] from rfl) (Reps.one (show Kd.M (Kd.int .i64) _ _ _ 9 [.int .i64 9] from rfl) (Reps.one (show Kd.M (Kd.int .i64) _ _ _ 10 [.int .i64 10] from rfl) (Reps.none _ _)))));intro gT iA ho46 hb hg_ hnew_;clear hg_ hnew_;(rw [← cU.out] at ho46);have bQ:=aM (Kd.R_lower ho46 (keep_size (km HK.out)));replace aC:=aM (IsS96.below (IsS96.mv aC.out) hb);replace aA:=rB aA hb;replace aE:=rB aE hb;replace HK:=rU HK hb;replace HB:=aM (bS (IsS96.bl HB.out) hb);clear hb ho46;obtain ⟨eC,eD,eE⟩:=Kd.R_slice bQ.out;subst eE)|((with_reducible refine gC (f:=51) rfl ?_);refine goesL_ (some 24) rfl rfl Tryd.func51 (by kernel_rfl) rfl #[.pointer (some ⟨g,0,none⟩),.slice eC cQ.length eD] rfl xR ?_;(with_reducible refine (Z18.calls g aD bI bJ _ _ cQ dA eA eB w0 _ ?side1 ?side2 ?side3 ?side4 ?side5 eL.out).mono ?_);(case side1=>exact IsS96.mv aC.out);(case side2=>exact IsS96.bl HB.out);(case side3=>exact cM ((Kd.R_reads' bQ.out).2.2));(case side4=>exact (Kd.R_reads' bQ.out).2.1);(case side5=>exact far_slice (IsS96.own_ne aC.out bQ.out (by decide)));rintro e iB ⟨rfl,hi,hb,hk⟩;refine ⟨_,rfl,?_⟩;replace aA:=rP hk aA aG;replace aE:=rP hk aE aH;replace bQ:=aM (IsS96.rJ aD bI bJ (IsS96.mv aC.out) (kr bQ.out) hk);replace HK:=aM (KeepBut.trans (km HK.out) hk (.inl rfl));replace HB:=aM (hb);replace aC:=aM (hi);(repeat first|clear hb|clear hk|clear hi);have fI:=cA4 aE.out;have fK:=aG.out;have fL:=bK.out;have fM:=cA4 aA.out))
  refine bodyPost_ret (results_cell_row rfl _ _ bM 25 #[bA,bD,dA,bH] (0,0) _ rfl (bm aA.out) Tryd.underlying25 rfl (by kernel_rfl)) rfl ?_
  exact ⟨xW,IsS96.mv aC.out,IsS96.bl HB.out,km HK.out⟩
 rw [if_neg cL] at H
 have dG:(aI == 2)=false:=beq_eq_false_iff_ne.mpr cL;have dH:(aI != 2)=true:=bne_iff_ne.mpr cL
 by_cases cN:aI=3
 case neg =>
  rw [if_neg cN] at H
  have dI:(aI == 3)=false:=beq_eq_false_iff_ne.mpr cN;have dJ:(aI != 3)=true:=bne_iff_ne.mpr cN;simp only [Option.some.injEq,Prod.mk.injEq] at H;obtain ⟨rfl,rfl,rfl,rfl,rfl,rfl⟩:=H;go_enter Tryd.func75,Tryd.ntmps75
  go_wp2_with (first|((with_reducible refine gD (N:=2) rfl ?_);refine bE (N:=2) (cs:=#[.int .i64 0,.int .i64 0,.int .i64 0,.int .i64 0]) (t:=25) ?_;intro bM hg iC hbox hb;have aA:=aM (hbox);have cD:=gE hg (keep_size (km HK.out));have cE:=gE2 HW0.out hg (keep_size (km HK.out));have bK:=nL hg (IsS96.lt (show IsS96 w0 _ g aD aV aW from IsS96.mv aC.out));have aG:=nG hg (IsS96.lt (show IsS96 w0 _ g aD aV aW from IsS96.mv aC.out));replace aC:=aM (IsS96.below (IsS96.mv aC.out) hb);replace HK:=rU HK hb;replace HB:=aM (bS (IsS96.bl HB.out) hb);clear hb hbox hg)|((with_reducible refine gC (f:=76) rfl ?_);refine goesL_ (some 5) rfl rfl Tryd.func76 (by kernel_rfl) rfl #[.pointer (some ⟨g,0,none⟩)] rfl xR ?_;(with_reducible refine (Z69.calls g aD aV aW bA bD bG bH aQ aT w0 _ ?side1 ?side2 A2.out).mono ?_);(case side1=>exact IsS96.mv aC.out);(case side2=>exact IsS96.bl HB.out);rintro e iD ⟨rfl,hi,hb,hk⟩;refine ⟨_,rfl,?_⟩;replace aA:=rP hk aA aG;replace HK:=aM (KeepBut.trans (km HK.out) hk (.inl rfl));replace HB:=aM (hb);replace aC:=aM (hi);(repeat first|clear hb|clear hk|clear hi))|((with_reducible refine gD (N:=3) rfl ?_);refine bE (N:=3) (cs:=#[.int .i64 0,.int .i64 0,.int .i64 0,.int .i64 0]) (t:=25) ?_;intro bN hg iE hbox hb;have aE:=aM (hbox);have cG:=gE hg (keep_size (km HK.out));have cH:=gE2 HW0.out hg (keep_size (km HK.out));have aK:=nM hg aA;have aN:=nH hg aA;have bL:=nL hg (IsS96.lt (show IsS96 w0 _ g aD aQ aT from IsS96.mv aC.out));have aH:=nG hg (IsS96.lt (show IsS96 w0 _ g aD aQ aT from IsS96.mv aC.out));replace aC:=aM (IsS96.below (IsS96.mv aC.out) hb);replace aA:=rB aA hb;replace HK:=rU HK hb;replace HB:=aM (bS (IsS96.bl HB.out) hb);clear hb hbox hg;have fN:=aN.out;have fO:=aK.out;have fP:=aH.out;have fQ:=bL.out;have fS:=cA4 aE.out)|((with_reducible refine gC (f:=60) rfl ?_);refine goesL_ (some 7) rfl rfl Tryd.func60 (by kernel_rfl) rfl #[.pointer (some ⟨g,0,none⟩),.int .i64 10] rfl xR ?_;(with_reducible refine (Z3.calls g aD aQ aT 10 aI bI bJ w0 _ ?side1 ?side2 A3.out).mono ?_);(case side1=>exact IsS96.mv aC.out);(case side2=>exact IsS96.bl HB.out);rintro e iF ⟨rfl,hi,hb,hk⟩;refine ⟨_,rfl,?_⟩;replace aA:=aM (KeepBut.blk hk (fm aA.out) aG.out (by simp));replace aE:=aM (KeepBut.blk hk (g':=bN) (o:=.cells #[bA,bD,bG,bH] 25 (0,0)) (bm aE.out) aH.out (by simp));replace HK:=aM (KeepBut.trans (km HK.out) hk (.inl rfl));replace HB:=aM (hb);replace aC:=aM (hi);(repeat first|clear hb|clear hk|clear hi);have fT:=cA4 aE.out;have fU:=aG.out;have fV:=bK.out;have fW:=cA4 aA.out))
  refine bodyPost_ret (results_cell_row rfl _ _ bM 25 #[bA,bD,bG,bH] (0,0) _ rfl (bm aA.out) Tryd.underlying25 rfl (by kernel_rfl)) rfl ?_
  exact ⟨xW,IsS96.mv aC.out,IsS96.bl HB.out,km HK.out⟩
 rw [if_pos cN] at H
 have dI:(aI == 3)=true:=beq_iff_eq.mpr cN;have dJ:(aI != 3)=false:=bne_eq_false_iff_eq.mpr cN;clear cN;obtain ⟨cR,cC⟩:∃ y_:List Int,y_=(([(-1),3,4]:List Int)):=⟨_,rfl⟩;replace H:((Z18.f aD bI bJ cR).bind fun bX=>(some (bA,bD,bG,bX.1,bX.2.1,bX.2.2)))=some (r1,r2,r3,r4,r5,r6):=by (rw [cC];with_reducible exact H)
 have cV:=aM cC;clear cC;obtain ⟨⟨dC,eF,eG⟩,dD,H⟩:=hB H
 try dsimp only at H
 have eM:=aM dD;clear dD;simp only [Option.some.injEq,Prod.mk.injEq] at H;obtain ⟨rfl,rfl,rfl,rfl,rfl,rfl⟩:=H;go_enter Tryd.func75,Tryd.ntmps75
 go_wp2_with (first|((with_reducible refine gD (N:=2) rfl ?_);refine bE (N:=2) (cs:=#[.int .i64 0,.int .i64 0,.int .i64 0,.int .i64 0]) (t:=25) ?_;intro bM hg iG hbox hb;have aA:=aM (hbox);have cD:=gE hg (keep_size (km HK.out));have cE:=gE2 HW0.out hg (keep_size (km HK.out));have bK:=nL hg (IsS96.lt (show IsS96 w0 _ g aD aV aW from IsS96.mv aC.out));have aG:=nG hg (IsS96.lt (show IsS96 w0 _ g aD aV aW from IsS96.mv aC.out));replace aC:=aM (IsS96.below (IsS96.mv aC.out) hb);replace HK:=rU HK hb;replace HB:=aM (bS (IsS96.bl HB.out) hb);clear hb hbox hg)|((with_reducible refine gC (f:=76) rfl ?_);refine goesL_ (some 5) rfl rfl Tryd.func76 (by kernel_rfl) rfl #[.pointer (some ⟨g,0,none⟩)] rfl xR ?_;(with_reducible refine (Z69.calls g aD aV aW bA bD bG bH aQ aT w0 _ ?side1 ?side2 A2.out).mono ?_);(case side1=>exact IsS96.mv aC.out);(case side2=>exact IsS96.bl HB.out);rintro e iH ⟨rfl,hi,hb,hk⟩;refine ⟨_,rfl,?_⟩;replace aA:=rP hk aA aG;replace HK:=aM (KeepBut.trans (km HK.out) hk (.inl rfl));replace HB:=aM (hb);replace aC:=aM (hi);(repeat first|clear hb|clear hk|clear hi))|((with_reducible refine gD (N:=3) rfl ?_);refine bE (N:=3) (cs:=#[.int .i64 0,.int .i64 0,.int .i64 0,.int .i64 0]) (t:=25) ?_;intro bN hg iI hbox hb;have aE:=aM (hbox);have cG:=gE hg (keep_size (km HK.out));have cH:=gE2 HW0.out hg (keep_size (km HK.out));have aK:=nM hg aA;have aN:=nH hg aA;have bL:=nL hg (IsS96.lt (show IsS96 w0 _ g aD aQ aT from IsS96.mv aC.out));have aH:=nG hg (IsS96.lt (show IsS96 w0 _ g aD aQ aT from IsS96.mv aC.out));replace aC:=aM (IsS96.below (IsS96.mv aC.out) hb);replace aA:=rB aA hb;replace HK:=rU HK hb;replace HB:=aM (bS (IsS96.bl HB.out) hb);clear hb hbox hg;have fX:=aN.out;have fY:=aK.out;have gA:=aH.out;have gB:=bL.out;have gG:=cA4 aE.out)|((with_reducible refine gC (f:=60) rfl ?_);refine goesL_ (some 7) rfl rfl Tryd.func60 (by kernel_rfl) rfl #[.pointer (some ⟨g,0,none⟩),.int .i64 10] rfl xR ?_;(with_reducible refine (Z3.calls g aD aQ aT 10 aI bI bJ w0 _ ?side1 ?side2 A3.out).mono ?_);(case side1=>exact IsS96.mv aC.out);(case side2=>exact IsS96.bl HB.out);rintro e iJ ⟨rfl,hi,hb,hk⟩;refine ⟨_,rfl,?_⟩;replace aA:=aM (KeepBut.blk hk (fm aA.out) aG.out (by simp));replace aE:=aM (KeepBut.blk hk (g':=bN) (o:=.cells #[bA,bD,bG,bH] 25 (0,0)) (bm aE.out) aH.out (by simp));replace HK:=aM (KeepBut.trans (km HK.out) hk (.inl rfl));replace HB:=aM (hb);replace aC:=aM (hi);(repeat first|clear hb|clear hk|clear hi))|((with_reducible refine gD (N:=29) rfl ?_);refine Kd.R_lit (Kd.int .i64) _ 3 ?hg (N:=29) ?hd (xs:=([(-1),3,4]:List Int)) (inner:=[.int .i64 (-1),.int .i64 3,.int .i64 4]) (ok:=fun _=>True) (okp:=fun _=>True) ?hr ?hp (fun _ hk=>hk) trivial (Below.refl _ _) (Nat.le_refl _) (by simp) ?_;(case hd=>rfl);(case hg=>rfl);(case hr=>(go_simp;done));(case hp=>exact (Reps.one (show Kd.M (Kd.int .i64) _ _ _ (-1) [.int .i64 (-1)] from rfl) (Reps.one (show Kd.M (Kd.int .i64) _ _ _ 3 [.int .i64 3] from rfl) (Reps.one (show Kd.M (Kd.int .i64) _ _ _ 4 [.int .i64 4] from rfl) (Reps.none _ _)))));intro gU iK ho62 hb hg_ hnew_;clear hg_ hnew_;(rw [← cV.out] at ho62);have bT:=aM (Kd.R_lower ho62 (keep_size (km HK.out)));replace aC:=aM (IsS96.below (IsS96.mv aC.out) hb);replace aA:=rB aA hb;replace aE:=rB aE hb;replace HK:=rU HK hb;replace HB:=aM (bS (IsS96.bl HB.out) hb);clear hb ho62;obtain ⟨eH,eI,eJ⟩:=Kd.R_slice bT.out;subst eJ)|((with_reducible refine gC (f:=51) rfl ?_);refine goesL_ (some 30) rfl rfl Tryd.func51 (by kernel_rfl) rfl #[.pointer (some ⟨g,0,none⟩),.slice eH cR.length eI] rfl xR ?_;(with_reducible refine (Z18.calls g aD bI bJ _ _ cR dC eF eG w0 _ ?side1 ?side2 ?side3 ?side4 ?side5 eM.out).mono ?_);(case side1=>exact IsS96.mv aC.out);(case side2=>exact IsS96.bl HB.out);(case side3=>exact cM ((Kd.R_reads' bT.out).2.2));(case side4=>exact (Kd.R_reads' bT.out).2.1);(case side5=>exact far_slice (IsS96.own_ne aC.out bT.out (by decide)));rintro e iL ⟨rfl,hi,hb,hk⟩;refine ⟨_,rfl,?_⟩;replace aA:=rP hk aA aG;replace aE:=rP hk aE aH;replace bT:=aM (IsS96.rJ aD bI bJ (IsS96.mv aC.out) (kr bT.out) hk);replace HK:=aM (KeepBut.trans (km HK.out) hk (.inl rfl));replace HB:=aM (hb);replace aC:=aM (hi);(repeat first|clear hb|clear hk|clear hi);have gH:=cA4 aE.out;have gJ:=aG.out;have gK:=bK.out;have gM:=cA4 aA.out))
 refine bodyPost_ret (results_cell_row rfl _ _ bM 25 #[bA,bD,bG,dC] (0,0) _ rfl (bm aA.out) Tryd.underlying25 rfl (by kernel_rfl)) rfl ?_
 exact ⟨xW,IsS96.mv aC.out,IsS96.bl HB.out,km HK.out⟩

end Go.Proofs.YtljbdchibfjbdaaDoor.PFnIns
