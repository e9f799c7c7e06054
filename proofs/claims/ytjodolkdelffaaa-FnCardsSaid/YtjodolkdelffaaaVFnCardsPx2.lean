/- A part of the proof of laws.FnCards. No condition beyond what its theorems say. -/
import Derived.Test.YtjodolkdelffaaaVFnCardsPx0
namespace Go.Proofs.Ytjodolkdelffaaa.PFnCards
open Go.RowKit Go.Proofs.YtjodolkdelffaaaW.PrintWords Go.Proofs.YtjodolkdelffaaaW.PrintLast Go.Proofs.YtjodolkdelffaaaW.PrintMore
set_option linter.unusedVariables false
set_option linter.unusedSimpArgs false

def Z62.f (l0:List Int):Option (Bool):=some (decide ((l0.length:Int) > 1048576))
set_option maxHeartbeats 60000000 in
set_option maxRecDepth 100000 in
theorem Z62.calls (A0:Option Addr) (c0:Nat) (l0:List Int) (r:Bool) (w:World) (hr0:Kd.C (Kd.int .u8) w A0 l0.length l0) (hc0:l0.length≤c0) (h:Z62.f l0=some r) :
  Calls Try.prog 5 #[.slice A0 l0.length c0] w fun e w'=>e=.returned (.bool r)∧Drawn0 w w':=by
 clear hr0 hc0;have H:(some (decide ((l0.length:Int) > 1048576)))=some r:=h;clear h;obtain rfl:=Option.some.inj H;go_enter Try.func5,Try.ntmps5
 go_wp2
 go_ret
 exact ⟨by rfl,by repeat (exact Drawn0.refl _)⟩

/-- A state of type 76 at block g of W; what its slices lead to came in by w0. -/
def IsS76 (w0 W:World) (g:Nat) (f0:List Int) (f1 f2:Int):Prop:=∃ A0 c0,W.heap[g]?=some (.cells #[.slice A0 f0.length c0,f1,f2] 76 (0,0))∧w0.heap.size≤g∧(Kd.C (Kd.int .u8) w0 A0 f0.length f0∧f0.length≤c0)
theorem IsS76.grown {w0 W:World} {g:Nat} {f0:List Int} {f1:Int} {f2:Int} {W1:World} {row:Option Nat} (h:IsS76 w0 W g f0 f1 f2) (hw:W.grownBy W1 row) (hne:some g≠row):IsS76 w0 W1 g f0 f1 f2:=by
 obtain ⟨A0,c0,hb,hg,hr0⟩:=h;exact ⟨A0,c0,blk_grown hb hw hne,hg,hr0⟩
theorem IsS76.own_neN {w0 W:World} {g:Nat} {f0:List Int} {f1:Int} {f2:Int} {α:Type} {d:Kd α} {e:Nat} {base:Nat} {ok:Nat→Prop} {v:Value} {xs:List α} (h:IsS76 w0 W g f0 f1 f2) (ho:Kd.N d e W base ok v xs) (ht:e≠76):some g≠v.ownBlock:=by
 obtain ⟨A0,c0,hb,hg,hr0⟩:=h;exact Kd.N_ne ho hb ht
theorem IsS76.fresh {w0 W:World} {g:Nat} {f0:List Int} {f1:Int} {f2:Int} (h:IsS76 w0 W g f0 f1 f2):∀ k,W.heap.size≤k→k≠g:=by
 obtain ⟨A0,c0,hb,hg,hr0⟩:=h;exact Kd.freshB hb
theorem IsS76.kept {w0 W:World} {g:Nat} {f0:List Int} {f1:Int} {f2:Int} {W1:World} {S:Nat→Prop} (h:IsS76 w0 W g f0 f1 f2) (hk:Kept W W1 S) (hne:¬ S g):IsS76 w0 W1 g f0 f1 f2:=by
 obtain ⟨A0,c0,hb,hg,hr0⟩:=h;exact ⟨A0,c0,blk_kept hb hk hne,hg,hr0⟩
theorem IsS76.below {w0 W:World} {g:Nat} {f0:List Int} {f1:Int} {f2:Int} {W1:World} (h:IsS76 w0 W g f0 f1 f2) (hw:Below W.heap.size W W1):IsS76 w0 W1 g f0 f1 f2:=h.grown (grown_of_below hw none) (by simp)
theorem IsS76.alloc {w0 W:World} {g:Nat} {f0:List Int} {f1:Int} {f2:Int} (h:IsS76 w0 W g f0 f1 f2) (o:Obj):IsS76 w0 (W.alloc o) g f0 f1 f2:=h.below (below_alloc (Below.refl _ _) o)
theorem IsS76.drewN {w0 W:World} {g:Nat} {f0:List Int} {f1:Int} {f2:Int} (h:IsS76 w0 W g f0 f1 f2) (m:Nat):IsS76 w0 (W.drewN m) g f0 f1 f2:=h
theorem IsS76.drew {w0 W:World} {g:Nat} {f0:List Int} {f1:Int} {f2:Int} (h:IsS76 w0 W g f0 f1 f2):IsS76 w0 W.drew g f0 f1 f2:=h
theorem IsS76.at_ {w0 W:World} {g:Nat} {f0:List Int} {f1:Int} {f2:Int} {w':World} {m:Nat} (hq:W.drewN m=w') (h:IsS76 w0 W g f0 f1 f2):IsS76 w0 w' g f0 f1 f2:=by subst hq;exact IsS76.drewN h m
theorem IsS76.apart {w0 W:World} {g:Nat} {f0:List Int} {f1:Int} {f2:Int} {α:Type} {d:Kd α} {e:Nat} {base:Nat} {ok:Nat→Prop} {v:Value} {xs:List α} (h:IsS76 w0 W g f0 f1 f2) (ho:d.R e W base ok v xs) (ht:∀ q,q∈e :: d.E→q≠76):d.R e W base (fun k=>ok k∧k≠g) v xs:=by
 obtain ⟨A0,c0,hb,hg,hr0⟩:=h;exact Kd.R_types ho hb ht
theorem IsS76.rJ {w0 W:World} {g:Nat} (f0:List Int) (f1:Int) (f2:Int) {α:Type} {d:Kd α} {e:Nat} {base:Nat} {ok:Nat→Prop} {v:Value} {xs:List α} {W1:World} (h:IsS76 w0 W g f0 f1 f2) (ho:d.R e W base ok v xs) (hk:KeepBut W W1 g none) (ht:∀ q,q∈e :: d.E→q≠76:=by decide):d.R e W1 base ok v xs:=Kd.R_mono (Kd.R_keep (IsS76.apart h ho ht) hk (fun _ h=>h.2)) (fun _ h=>h.1)
theorem IsS76.own_ne {w0 W:World} {g:Nat} {f0:List Int} {f1:Int} {f2:Int} {α:Type} {d:Kd α} {e:Nat} {base:Nat} {ok:Nat→Prop} {v:Value} {xs:List α} (h:IsS76 w0 W g f0 f1 f2) (ho:d.R e W base ok v xs) (ht:e≠76):some g≠v.ownBlock:=by
 obtain ⟨A0,c0,hb,hg,hr0⟩:=h;exact Kd.R_ne ho hb ht
theorem IsS76.apartQ {w0 W:World} {g:Nat} {f0:List Int} {f1:Int} {f2:Int} {α:Type} {d:Kd α} {e:Nat} {base:Nat} {ok:Nat→Prop} {v:Value} {xs:List α} (h:IsS76 w0 W g f0 f1 f2) (ho:d.Q e W base ok v xs) (ht:∀ q,q∈e :: d.E→q≠76):d.Q e W base (fun k=>ok k∧k≠g) v xs:=by
 obtain ⟨A0,c0,hb,hg,hr0⟩:=h;exact Kd.Q_types ho hb ht
theorem IsS76.own_neQ {w0 W:World} {g:Nat} {f0:List Int} {f1:Int} {f2:Int} {α:Type} {d:Kd α} {e:Nat} {base:Nat} {ok:Nat→Prop} {v:Value} {xs:List α} (h:IsS76 w0 W g f0 f1 f2) (ho:d.Q e W base ok v xs) (ht:e≠76):some g≠v.ownBlock:=by
 obtain ⟨A0,c0,hb,hg,hr0⟩:=h;exact Kd.Q_ne ho hb ht
theorem IsS76.apartS {w0 W:World} {g:Nat} {f0:List Int} {f1:Int} {f2:Int} {α:Type} {d:Kd α} {e:Nat} {base:Nat} {ok:Nat→Prop} {v:Value} {xs:List α} (h:IsS76 w0 W g f0 f1 f2) (ho:d.S e W base ok v xs) (ht:∀ q,q∈e :: d.E→q≠76):d.S e W base (fun k=>ok k∧k≠g) v xs:=by
 obtain ⟨A0,c0,hb,hg,hr0⟩:=h;exact Kd.S_types ho hb ht
theorem IsS76.own_neS {w0 W:World} {g:Nat} {f0:List Int} {f1:Int} {f2:Int} {α:Type} {d:Kd α} {e:Nat} {base:Nat} {ok:Nat→Prop} {v:Value} {xs:List α} (h:IsS76 w0 W g f0 f1 f2) (ho:d.S e W base ok v xs) (ht:e≠76):some g≠v.ownBlock:=by
 obtain ⟨A0,c0,hb,hg,hr0⟩:=h;exact Kd.S_ne ho hb ht
theorem IsS76.lt {w0 W:World} {g:Nat} {f0:List Int} {f1:Int} {f2:Int} (h:IsS76 w0 W g f0 f1 f2):g<W.heap.size:=by
 obtain ⟨A0,c0,hb,hg,hr0⟩:=h;exact blk_lt hb
theorem IsS76.ge {w0 W:World} {g:Nat} {f0:List Int} {f1:Int} {f2:Int} (h:IsS76 w0 W g f0 f1 f2):w0.heap.size≤g:=by
 obtain ⟨A0,c0,hb,hg,hr0⟩:=h;exact hg
theorem IsS76.ne_blk {w0 W:World} {g:Nat} {f0:List Int} {f1:Int} {f2:Int} {a:Nat} {cs:Array Value} {t:TypeId} {fr:Nat × Nat} (h:IsS76 w0 W g f0 f1 f2) (hb2:W.heap[a]?=some (.cells cs t fr)) (ht:t≠76):g≠a:=by
 obtain ⟨A0,c0,hb,hg,hr0⟩:=h;rintro rfl;rw [hb] at hb2
 injection hb2 with hb2
 injection hb2 with _ ht2
 exact ht ht2.symm
theorem IsS76.far {w0 W:World} {g:Nat} {f0:List Int} {f1:Int} {f2:Int} {p:Addr} (h:IsS76 w0 W g f0 f1 f2) (hne:g≠p.block) (u:Value):IsS76 w0 (W.setCell p u) g f0 f1 f2:=by
 obtain ⟨A0,c0,hb,hg,hr0⟩:=h;exact ⟨A0,c0,blk_far hb hne u,hg,hr0⟩
theorem cellS76_0 {W:World} {g:Nat} {A0:Option Addr} {c0:Nat} {f0:List Int} {f1:Int} {f2:Int} (h:W.heap[g]?=some (.cells #[.slice A0 f0.length c0,f1,f2] 76 (0,0))):W.cell? ⟨g,0,none⟩=some (.slice A0 f0.length c0):=(bC h 0).trans rfl
theorem IsS76.put_0 {w0 W:World} {g:Nat} {f0:List Int} {f1:Int} {f2:Int} {A_:Option Addr} {c_:Nat} {x_:List Int} (h:IsS76 w0 W g f0 f1 f2) (hx_:Kd.C (Kd.int .u8) w0 A_ x_.length x_∧x_.length≤c_):IsS76 w0 (W.setCell ⟨g,0,none⟩ (.slice A_ x_.length c_)) g x_ f1 f2:=by
 obtain ⟨A0,c0,hb,hg,hr0⟩:=h;exact ⟨A_,c_,by simpa using blk_set hb 0 (.slice A_ x_.length c_),hg,hx_⟩
theorem cellS76_1 {W:World} {g:Nat} {A0:Option Addr} {c0:Nat} {f0:List Int} {f1:Int} {f2:Int} (h:W.heap[g]?=some (.cells #[.slice A0 f0.length c0,f1,f2] 76 (0,0))):W.cell? ⟨g,1,none⟩=some f1:=(bC h 1).trans rfl
theorem IsS76.set_1 {w0 W:World} {g:Nat} {f0:List Int} {f1:Int} {f2:Int} (h:IsS76 w0 W g f0 f1 f2) (x:Int):IsS76 w0 (W.setCell ⟨g,1,none⟩ (.int .i64 x)) g f0 x f2:=by
 obtain ⟨A0,c0,hb,hg,hr0⟩:=h;exact ⟨A0,c0,by simpa using blk_set hb 1 (.int .i64 x),hg,hr0⟩
theorem cellS76_2 {W:World} {g:Nat} {A0:Option Addr} {c0:Nat} {f0:List Int} {f1:Int} {f2:Int} (h:W.heap[g]?=some (.cells #[.slice A0 f0.length c0,f1,f2] 76 (0,0))):W.cell? ⟨g,2,none⟩=some f2:=(bC h 2).trans rfl
theorem IsS76.set_2 {w0 W:World} {g:Nat} {f0:List Int} {f1:Int} {f2:Int} (h:IsS76 w0 W g f0 f1 f2) (x:Int):IsS76 w0 (W.setCell ⟨g,2,none⟩ (.int .i64 x)) g f0 f1 x:=by
 obtain ⟨A0,c0,hb,hg,hr0⟩:=h;exact ⟨A0,c0,by simpa using blk_set hb 2 (.int .i64 x),hg,hr0⟩
theorem IsS76.new (w0 W:World) (A0:Option Addr) (c0:Nat) (f0:List Int) (f1 f2:Int) (hB:Below w0.heap.size w0 W) (hr0:Kd.C (Kd.int .u8) w0 A0 f0.length f0∧f0.length≤c0):IsS76 w0 (W.alloc (.cells #[.slice A0 f0.length c0,f1,f2] 76)) W.heap.size f0 f1 f2:=⟨A0,c0,by simpa using heap_alloc_new W _,hB.size,hr0⟩

theorem IsS76.mv {w0 W W':World} {g:Nat} {f0 f0':List Int} {f1 f1':Int} {f2 f2':Int} (h:IsS76 w0 W g f0 f1 f2) (hs:IsS76 w0 W g f0 f1 f2→IsS76 w0 W' g f0' f1' f2':=by intro h;repeat (first|(with_reducible first|exact h|apply IsS76.alloc|apply IsS76.drewN|apply IsS76.drew|apply IsS76.set_1|apply IsS76.set_2|refine IsS76.far ?_ (Aside0.out (by assumption)) _)|exact h)):IsS76 w0 W' g f0' f1' f2':=hs h
theorem IsS76.bl {B:Nat} {w0 W W':World} (h:Below B w0 W) (hs:Below B w0 W→Below B w0 W':=by intro h;repeat (first|(with_reducible first|exact h|apply below_alloc|apply pw_below_drewN|apply below_drew1|refine below_set ?_ (Aside0.out (by assumption))|refine below_set ?_ (IsS76.ge (Aside0.out (by assumption))))|exact h)):Below B w0 W':=hs h
def Z35.l0:Nat→List Int→Int→Int→Option (List Int × Int × Int)
 | 0,_,_,_=>none
 | k+1,x0,x3,x4=>if x4<(x0.length:Int) then (if x4<4000 then (if 0≤x4 then (Z35.l0 k x0 (Go.bits .and .i64 (wrap64 ((wrap64 ((wrap64 (x3*131))+(wrap64 (rd x0 x4))))+7)) 1073741823) (wrap64 (x4+1))) else (none)) else (some (x0,0,x3))) else (some (x0,0,x3))
def Z35.f (k:Nat) (l0:List Int):Option (List Int × Int × Int):=Z35.l0 k l0 (wrap64 (27397+(l0.length:Int))) 0
theorem Z35.mono_l:∀ k,(∀ y0 y1 y2,LeO (Z35.l0 k y0 y1 y2) (Z35.l0 (k+1) y0 y1 y2))
 | 0=>fun _ _ _ r h=>by simp [Z35.l0] at h
 | k+1=>by
  have ih0:=Z35.mono_l k
  ·intro y0 y1 y2
   unfold Z35.l0
   repeat' (with_reducible first|apply ih0|exact lR _|refine lI ?_ ?_)
theorem Z35.mono:∀ a0 k,LeO (Z35.f k a0) (Z35.f (k+1) a0):=by
 intro a0 k;have ih0:=Z35.mono_l k;unfold Z35.f
 repeat' (with_reducible apply ih0)
set_option maxHeartbeats 60000000 in
set_option maxRecDepth 100000 in
theorem Z35.calls (k:Nat) (A0:Option Addr) (c0:Nat) (l0:List Int) (r1:List Int) (r2 r3:Int) (w0 w:World) (hB:Below w0.heap.size w0 w) (hr0:Kd.C (Kd.int .u8) w0 A0 l0.length l0) (hc0:l0.length≤c0) (h:Z35.f k l0=some (r1,r2,r3)) :
  Calls Try.prog 20 #[.slice A0 l0.length c0] w fun e w'=>∃ g_:Nat,e=.returned (.pointer (some ⟨g_,0,none⟩))∧IsS76 w0 w' g_ r1 r2 r3∧Below w0.heap.size w0 w'∧Below w.heap.size w w':=by
 have aJ:=aM hr0;have aX:=aM hc0;clear hr0 hc0;have HBW:=aM (Below.refl w.heap.size w);have HW0:=aM hB.size;have HB:=aM hB;clear hB;have H:(Z35.l0 k l0 (wrap64 (27397+(l0.length:Int))) 0)=some (r1,r2,r3):=h;clear h;have H':=aM H;clear H;go_enter Try.func20,Try.ntmps20
 go_wp2
 go_loopg [3,4] k (fun kq v3 v4 w'=>∃ (aC:Int) (aA:Int),v3=.int .i64 aC∧v4=.int .i64 aA∧Aside0 (Z35.l0 kq l0 aC aA=some (r1,r2,r3))∧Aside0 (kq≤k)∧Aside0 (Below w0.heap.size w0 w')∧Aside0 (Below w.heap.size w w'))
 case atStart=>exact ⟨(wrap64 (27397+(l0.length:Int))),(0),xE,xE,H',⟨Nat.le_refl _⟩,⟨bl HB.out⟩,⟨by repeat ((with_reducible exact HBW.out))⟩⟩
 case round =>
  clear H';obtain ⟨aC,aA,rfl,rfl,HA,bA,HB,HBW⟩:=hrel;cases gk with
  | zero=>exact absurd HA.out (by simp [Z35.l0])
  | succ k1 =>
   have H:=HA.out;clear HA;simp only [Z35.l0] at H
   by_cases c2:aA<(l0.length:Int)
   case neg =>
    rw [if_neg c2] at H
    have bD:=decide_eq_false c2;clear c2;simp only [Option.some.injEq,Prod.mk.injEq] at H;obtain ⟨rfl,rfl,rfl⟩:=H;go_wp2_with (((with_reducible refine gD (N:=31) rfl ?_);refine bE (N:=31) (cs:=#[.slice A0 l0.length c0,.int .i64 0,aC]) (t:=76) ?_;intro aD hg w6 hbox hb;have aK:=aM (hbox);have aQ:=aM ((Nat.le_trans HW0.out (by rw [hg];exact (below_size (by repeat ((with_reducible exact HBW.out)))):w.heap.size≤aD):w0.heap.size≤aD));replace HBW:=aM (bS HBW.out hb);replace HB:=rS HB hb;clear hb hbox hg))
    go_ret
    exact ⟨_,rfl,(show IsS76 w0 _ aD l0 0 aC from ⟨_,_,by (with_reducible repeat (first|refine blk_drewN ?_ _|refine blk_drew ?_|refine blk_alloc ?_ _));exact aK.out,aQ.out,⟨aJ.out,aX.out⟩⟩),bl HB.out,by repeat ((with_reducible exact HBW.out))⟩
   rw [if_pos c2] at H
   have bD:=decide_eq_true c2;clear c2
   by_cases c3:aA<4000
   case neg =>
    rw [if_neg c3] at H
    have bG:=decide_eq_false c3;clear c3;simp only [Option.some.injEq,Prod.mk.injEq] at H;obtain ⟨rfl,rfl,rfl⟩:=H;go_wp2_with (((with_reducible refine gD (N:=31) rfl ?_);refine bE (N:=31) (cs:=#[.slice A0 l0.length c0,.int .i64 0,aC]) (t:=76) ?_;intro aE hg w5 hbox hb;have aT:=aM (hbox);have aW:=aM ((Nat.le_trans HW0.out (by rw [hg];exact (below_size (by repeat ((with_reducible exact HBW.out)))):w.heap.size≤aE):w0.heap.size≤aE));replace HBW:=aM (bS HBW.out hb);replace HB:=rS HB hb;clear hb hbox hg))
    go_ret
    exact ⟨_,rfl,(show IsS76 w0 _ aE l0 0 aC from ⟨_,_,by (with_reducible repeat (first|refine blk_drewN ?_ _|refine blk_drew ?_|refine blk_alloc ?_ _));exact aT.out,aW.out,⟨aJ.out,aX.out⟩⟩),bl HB.out,by repeat ((with_reducible exact HBW.out))⟩
   rw [if_pos c3] at H
   have bG:=decide_eq_true c3;clear c3;obtain ⟨bK,H⟩:=gI H;have H':=aM H;clear H;have aH:0≤(aA:Int):=dT;have aI:aA<(l0.length:Int):=dT;obtain ⟨bI,bH,aG⟩:=Kd.at_int aJ.out aA aH aI;cases bH
   replace aG:=pw_cell_below HB.out aG;replace aH:=eq_true aH;replace aI:=eq_true aI;go_wp2
   go_roundg k1
   case measure=>have:=bA.out;omega
   case rel=>exact ⟨(Go.bits .and .i64 (wrap64 ((wrap64 ((wrap64 (aC*131))+(wrap64 (rd l0 aA))))+7)) 1073741823),(wS aA),xE,xE,H',⟨by have:=bA.out;omega⟩,⟨bl HB.out⟩,⟨by repeat ((with_reducible exact HBW.out))⟩⟩

def Z42.f (aD:List Int) (aC aA:Int):Option (Int × Int × Int):=if aC<(aD.length:Int) then (if 0≤aC then (some (Go.bits .and .i64 (wrap64 ((Go.bits .and .i64 (Go.bits .xor .i64 ((wrap64 ((wrap64 (aA*6364136223846793005))+1442695040888963407)) / 8589934592) ((wrap64 ((wrap64 (aA*6364136223846793005))+1442695040888963407)) / 35184372088832)) 255)+(wrap64 (rd aD aC)))) 255,wrap64 (aC+1),wrap64 ((wrap64 (aA*6364136223846793005))+1442695040888963407))) else (none)) else (some (Go.bits .and .i64 (Go.bits .xor .i64 ((wrap64 ((wrap64 (aA*6364136223846793005))+1442695040888963407)) / 8589934592) ((wrap64 ((wrap64 (aA*6364136223846793005))+1442695040888963407)) / 35184372088832)) 255,aC,wrap64 ((wrap64 (aA*6364136223846793005))+1442695040888963407)))
set_option maxHeartbeats 60000000 in
set_option maxRecDepth 100000 in
theorem Z42.calls (g:Nat) (aE:List Int) (aC aD r1 r2 r3:Int) (w0 w:World) (hI:IsS76 w0 w g aE aC aD) (hB:Below w0.heap.size w0 w) (h:Z42.f aE aC aD=some (r1,r2,r3)) :
  Calls Try.prog 53 #[.pointer (some ⟨g,0,none⟩)] w fun e w'=>e=.returned (.int .i64 r1)∧IsS76 w0 w' g aE r2 r3∧Below w0.heap.size w0 w'∧KeepBut w w' g none:=by
 have aG:=aM hI;have HK:=aM (KeepBut.refl w g none);clear hI;have HB:=aM hB;clear hB;have H:(if aC<(aE.length:Int) then (if 0≤aC then (some (Go.bits .and .i64 (wrap64 ((Go.bits .and .i64 (Go.bits .xor .i64 ((wrap64 ((wrap64 (aD*6364136223846793005))+1442695040888963407)) / 8589934592) ((wrap64 ((wrap64 (aD*6364136223846793005))+1442695040888963407)) / 35184372088832)) 255)+(wrap64 (rd aE aC)))) 255,wS aC,wrap64 ((wrap64 (aD*6364136223846793005))+1442695040888963407))) else (none)) else (some (Go.bits .and .i64 (Go.bits .xor .i64 ((wrap64 ((wrap64 (aD*6364136223846793005))+1442695040888963407)) / 8589934592) ((wrap64 ((wrap64 (aD*6364136223846793005))+1442695040888963407)) / 35184372088832)) 255,aC,wrap64 ((wrap64 (aD*6364136223846793005))+1442695040888963407))))=some (r1,r2,r3):=h;clear h
 by_cases c2:aC<(aE.length:Int)
 case neg =>
  rw [if_neg c2] at H
  have aK:=decide_eq_false c2;clear c2;simp only [Option.some.injEq,Prod.mk.injEq] at H;obtain ⟨rfl,rfl,rfl⟩:=H;obtain ⟨ASz5_0,cSz5_0,HGz5,hgz5,HSz5_0⟩:=aG.out;have aT:=cellS76_0 HGz5;have aV:=cellS76_1 HGz5;have aW:=cellS76_2 HGz5;have bA:=bF HGz5 2;clear HGz5 hgz5;go_enter Try.func53,Try.ntmps53
  go_wp2
  repeat (go_quiet (fail);try go_wp2)
  go_ret
  exact ⟨xW,IsS76.mv aG.out,IsS76.bl HB.out,km HK.out⟩
 rw [if_pos c2] at H
 have aK:=decide_eq_true c2;clear c2;obtain ⟨bK,H⟩:=gI H;simp only [Option.some.injEq,Prod.mk.injEq] at H;obtain ⟨rfl,rfl,rfl⟩:=H;obtain ⟨ASz4_0,cSz4_0,HGz4,hgz4,HSz4_0⟩:=aG.out;have bD:=cellS76_0 HGz4;have bG:=cellS76_1 HGz4;have bH:=cellS76_2 HGz4;have bI:=bF HGz4 1;have bJ:=bF HGz4 2;clear HGz4 hgz4;have aH:0≤(aC:Int):=dT;have aI:aC<(aE.length:Int):=dT;obtain ⟨aJ,aN,aA⟩:=Kd.at_int HSz4_0.1 aC aH aI;cases aN
 have hn104_0:aJ.block≠g:=Nat.ne_of_lt (Nat.lt_of_lt_of_le (by have:=World.block_lt_of_cell? _ _ aA;rwa [add_block] at this) (IsS76.ge aG.out))
 replace aA:=pw_cell_below HB.out aA;replace aA:=(cell_far (p:=⟨g,2,none⟩) (by (rw [add_block];exact hn104_0)) (.int .i64 (wrap64 ((wrap64 (aD*6364136223846793005))+1442695040888963407)))).trans aA
 (try have aQ:=fun (n_:Nat)=>(show (((w.drewN n_).setCell ⟨g,2,none⟩ (.int .i64 (wrap64 ((wrap64 (aD*6364136223846793005))+1442695040888963407))))).cell? _=some _ from aA))
 clear hn104_0;replace aH:=eq_true aH;replace aI:=eq_true aI;go_enter Try.func53,Try.ntmps53
 go_wp2
 repeat (go_quiet (fail);try go_wp2)
 go_ret
 exact ⟨xW,IsS76.mv aG.out,IsS76.bl HB.out,km HK.out⟩

def Z3.f (aA:List Int) (aI aJ a1:Int):Option (Int × Int × Int):=if a1≤0 then (some (0,aI,aJ)) else (if a1≤256 then ((Z42.f aA aI aJ).bind fun aC=>(if a1=0 then (none) else (some (Int.tmod aC.1 a1,aC.2.1,aC.2.2)))) else ((Z42.f aA aI aJ).bind fun aD=>((Z42.f aA aD.2.1 aD.2.2).bind fun aE=>((Z42.f aA aE.2.1 aE.2.2).bind fun aG=>((Z42.f aA aG.2.1 aG.2.2).bind fun aH=>(if a1=0 then (none) else (some (Int.tmod (wrap64 ((wrap64 ((wrap64 ((wrap64 (aD.1*16777216))+(wrap64 (aE.1*65536))))+(wrap64 (aG.1*256))))+aH.1)) a1,aH.2.1,aH.2.2))))))))
set_option maxHeartbeats 60000000 in
set_option maxRecDepth 100000 in
theorem Z3.calls (g:Nat) (aA:List Int) (aD aE a1 r1 r2 r3:Int) (w0 w:World) (hI:IsS76 w0 w g aA aD aE) (hB:Below w0.heap.size w0 w) (h:Z3.f aA aD aE a1=some (r1,r2,r3)) :
  Calls Try.prog 22 #[.pointer (some ⟨g,0,none⟩),a1] w fun e w'=>e=.returned (.int .i64 r1)∧IsS76 w0 w' g aA r2 r3∧Below w0.heap.size w0 w'∧KeepBut w w' g none:=by
 have aC:=aM hI;have HK:=aM (KeepBut.refl w g none);clear hI;have HB:=aM hB;clear hB;have H:(if a1≤0 then (some (0,aD,aE)) else (if a1≤256 then ((Z42.f aA aD aE).bind fun aG=>(if a1=0 then (none) else (some (Int.tmod aG.1 a1,aG.2.1,aG.2.2)))) else ((Z42.f aA aD aE).bind fun aH=>((Z42.f aA aH.2.1 aH.2.2).bind fun aI=>((Z42.f aA aI.2.1 aI.2.2).bind fun aJ=>((Z42.f aA aJ.2.1 aJ.2.2).bind fun aK=>(if a1=0 then (none) else (some (Int.tmod (wrap64 ((wrap64 ((wrap64 ((wrap64 (aH.1*16777216))+(wrap64 (aI.1*65536))))+(wrap64 (aJ.1*256))))+aK.1)) a1,aK.2.1,aK.2.2)))))))))=some (r1,r2,r3):=h
 clear h
 by_cases c3:a1≤0
 case pos =>
  rw [if_pos c3] at H
  have bK:=decide_eq_true c3;clear c3;simp only [Option.some.injEq,Prod.mk.injEq] at H;obtain ⟨rfl,rfl,rfl⟩:=H;go_enter Try.func22,Try.ntmps22
  go_wp2
  go_ret
  exact ⟨xW,IsS76.mv aC.out,IsS76.bl HB.out,km HK.out⟩
 rw [if_neg c3] at H
 have bK:=decide_eq_false c3;clear c3
 by_cases c4:a1≤256
 case pos =>
  rw [if_pos c4] at H
  have bL:=decide_eq_true c4;clear c4;obtain ⟨⟨bM,bN,bO⟩,bH,H⟩:=hB H
  try dsimp only at H
  have A5:=aM bH;clear bH
  by_cases c6:a1=0
  case pos =>
   rw [if_pos c6] at H
   exact absurd H (by simp)
  rw [if_neg c6] at H
  simp only [Option.some.injEq,Prod.mk.injEq] at H;obtain ⟨rfl,rfl,rfl⟩:=H;go_enter Try.func22,Try.ntmps22
  go_wp2_with (((with_reducible refine gC (f:=53) rfl ?_);refine gL (some 14) Try.func53 #[.pointer (some ⟨g,0,none⟩)] ?_;(with_reducible refine (Z42.calls g aA aD aE bM bN bO w0 _ ?side1 ?side2 A5.out).mono ?_);(case side1=>exact IsS76.mv aC.out);(case side2=>exact IsS76.bl HB.out);rintro e w7 ⟨rfl,hi,hb,hk⟩;refine ⟨_,rfl,?_⟩;replace HK:=aM (KeepBut.trans (km HK.out) hk (.inl rfl));replace HB:=aM (hb);replace aC:=aM (hi);(repeat first|clear hb|clear hk|clear hi)))
  go_ret
  exact ⟨xW,IsS76.mv aC.out,IsS76.bl HB.out,km HK.out⟩
 rw [if_neg c4] at H
 have bL:=decide_eq_false c4;clear c4;obtain ⟨⟨bP,aQ,aT⟩,bI,H⟩:=hB H
 try dsimp only at H
 have A8:=aM bI;clear bI;obtain ⟨⟨bQ,aV,aW⟩,bJ,H⟩:=hB H
 try dsimp only at H
 have A9:=aM bJ;clear bJ;obtain ⟨⟨bT,aX,bA⟩,bD,H⟩:=hB H
 try dsimp only at H
 have bX:=aM bD;clear bD;obtain ⟨⟨bU,bV,bW⟩,bG,H⟩:=hB H
 try dsimp only at H
 have bY:=aM bG;clear bG
 by_cases aN:a1=0
 case pos =>
  rw [if_pos aN] at H
  exact absurd H (by simp)
 rw [if_neg aN] at H
 simp only [Option.some.injEq,Prod.mk.injEq] at H;obtain ⟨rfl,rfl,rfl⟩:=H;go_enter Try.func22,Try.ntmps22
 go_wp2_with (first|((with_reducible refine gC (f:=53) rfl ?_);refine gL (some 18) Try.func53 #[.pointer (some ⟨g,0,none⟩)] ?_;(with_reducible refine (Z42.calls g aA aD aE bP aQ aT w0 _ ?side1 ?side2 A8.out).mono ?_);(case side1=>exact IsS76.mv aC.out);(case side2=>exact IsS76.bl HB.out);rintro e cE ⟨rfl,hi,hb,hk⟩;refine ⟨_,rfl,?_⟩;replace HK:=aM (KeepBut.trans (km HK.out) hk (.inl rfl));replace HB:=aM (hb);replace aC:=aM (hi);(repeat first|clear hb|clear hk|clear hi))|((with_reducible refine gC (f:=53) rfl ?_);refine gL (some 20) Try.func53 #[.pointer (some ⟨g,0,none⟩)] ?_;(with_reducible refine (Z42.calls g aA aQ aT bQ aV aW w0 _ ?side1 ?side2 A9.out).mono ?_);(case side1=>exact IsS76.mv aC.out);(case side2=>exact IsS76.bl HB.out);rintro e cG ⟨rfl,hi,hb,hk⟩;refine ⟨_,rfl,?_⟩;replace HK:=aM (KeepBut.trans (km HK.out) hk (.inl rfl));replace HB:=aM (hb);replace aC:=aM (hi);(repeat first|clear hb|clear hk|clear hi))|((with_reducible refine gC (f:=53) rfl ?_);refine gL (some 22) Try.func53 #[.pointer (some ⟨g,0,none⟩)] ?_;(with_reducible refine (Z42.calls g aA aV aW bT aX bA w0 _ ?side1 ?side2 bX.out).mono ?_);(case side1=>exact IsS76.mv aC.out);(case side2=>exact IsS76.bl HB.out);rintro e cH ⟨rfl,hi,hb,hk⟩;refine ⟨_,rfl,?_⟩;replace HK:=aM (KeepBut.trans (km HK.out) hk (.inl rfl));replace HB:=aM (hb);replace aC:=aM (hi);(repeat first|clear hb|clear hk|clear hi))|((with_reducible refine gC (f:=53) rfl ?_);refine gL (some 24) Try.func53 #[.pointer (some ⟨g,0,none⟩)] ?_;(with_reducible refine (Z42.calls g aA aX bA bU bV bW w0 _ ?side1 ?side2 bY.out).mono ?_);(case side1=>exact IsS76.mv aC.out);(case side2=>exact IsS76.bl HB.out);rintro e cK ⟨rfl,hi,hb,hk⟩;refine ⟨_,rfl,?_⟩;replace HK:=aM (KeepBut.trans (km HK.out) hk (.inl rfl));replace HB:=aM (hb);replace aC:=aM (hi);(repeat first|clear hb|clear hk|clear hi)))
 go_ret
 exact ⟨xW,IsS76.mv aC.out,IsS76.bl HB.out,km HK.out⟩

def Z45.f (aC:List Int) (aD aE a1:Int):Option (Bool × Int × Int):=(Z3.f aC aD aE a1).bind fun aA=>(some ((aA.1 == 0),aA.2.1,aA.2.2))
set_option maxHeartbeats 60000000 in
set_option maxRecDepth 100000 in
theorem Z45.calls (g:Nat) (aA:List Int) (aC aD a1:Int) (r1:Bool) (r2 r3:Int) (w0 w:World) (hI:IsS76 w0 w g aA aC aD) (hB:Below w0.heap.size w0 w) (h:Z45.f aA aC aD a1=some (r1,r2,r3)) :
  Calls Try.prog 23 #[.pointer (some ⟨g,0,none⟩),a1] w fun e w'=>e=.returned (.bool r1)∧IsS76 w0 w' g aA r2 r3∧Below w0.heap.size w0 w'∧KeepBut w w' g none:=by
 have aG:=aM hI;have HK:=aM (KeepBut.refl w g none);clear hI;have HB:=aM hB;clear hB;have H:((Z3.f aA aC aD a1).bind fun aE=>(some ((aE.1 == 0),aE.2.1,aE.2.2)))=some (r1,r2,r3):=h
 clear h;obtain ⟨⟨aI,aJ,aK⟩,aH,H⟩:=hB H
 try dsimp only at H
 have A3:=aM aH;clear aH;simp only [Option.some.injEq,Prod.mk.injEq] at H;obtain ⟨rfl,rfl,rfl⟩:=H;go_enter Try.func23,Try.ntmps23
 go_wp2_with (((with_reducible refine gC (f:=22) rfl ?_);refine gL (some 7) Try.func22 #[.pointer (some ⟨g,0,none⟩),a1] ?_;(with_reducible refine (Z3.calls g aA aC aD a1 aI aJ aK w0 _ ?side1 ?side2 A3.out).mono ?_);(case side1=>exact IsS76.mv aG.out);(case side2=>exact IsS76.bl HB.out);rintro e w4 ⟨rfl,hi,hb,hk⟩;refine ⟨_,rfl,?_⟩;replace HK:=aM (KeepBut.trans (km HK.out) hk (.inl rfl));replace HB:=aM (hb);replace aG:=aM (hi);(repeat first|clear hb|clear hk|clear hi)))
 go_ret
 exact ⟨xW,IsS76.mv aG.out,IsS76.bl HB.out,km HK.out⟩

def Z24.l0:Nat→Int→List Int→Int→Int→Int→List Int→Option (Int × List Int × Int × Int)
 | 0,_,_,_,_,_,_=>none
 | k+1,x4,aE,aG,aH,aC,aA=>if x4≤4 then (if x4=aC then (if aA.length<17592186044416 then (Z24.l0 k (wrap64 (x4+1)) aE aG aH aC (aA++[x4])) else (none)) else ((Z45.f aE aG aH 2).bind fun aD=>(if aD.1=true then (if aA.length<17592186044416 then (Z24.l0 k (wrap64 (x4+1)) aE aD.2.1 aD.2.2 aC (aA++[x4])) else (none)) else (Z24.l0 k (wrap64 (x4+1)) aE aD.2.1 aD.2.2 aC aA)))) else (some (aC,aA,aG,aH))
def Z24.f (k:Nat) (aC:List Int) (aD aE:Int):Option (Int × List Int × Int × Int):=(Z3.f aC aD aE 3).bind fun aA=>(Z24.l0 k 1 aC aA.2.1 aA.2.2 (wrap64 (1+aA.1)) ([]:List Int))
theorem Z24.mono_l:∀ k,(∀ y0 y1 y2 y3 y4 y5,LeO (Z24.l0 k y0 y1 y2 y3 y4 y5) (Z24.l0 (k+1) y0 y1 y2 y3 y4 y5))
 | 0=>fun _ _ _ _ _ _ r h=>by simp [Z24.l0] at h
 | k+1=>by
  have ih0:=Z24.mono_l k
  ·intro y0 y1 y2 y3 y4 y5
   unfold Z24.l0
   repeat' (with_reducible first|apply ih0|exact lR _|refine lI ?_ ?_|refine lB ?_ fun _=>?_)
theorem Z24.mono:∀ a0 a1 a2 k,LeO (Z24.f k a0 a1 a2) (Z24.f (k+1) a0 a1 a2):=by
 intro a0 a1 a2 k;have ih0:=Z24.mono_l k;unfold Z24.f
 repeat' (with_reducible first|apply ih0|exact lR _|refine lB ?_ fun _=>?_)
set_option maxHeartbeats 60000000 in
set_option maxRecDepth 100000 in
theorem Z24.calls (k g:Nat) (aJ:List Int) (bH bI r1:Int) (r2:List Int) (r3 r4:Int) (w0 w:World) (hI:IsS76 w0 w g aJ bH bI) (hB:Below w0.heap.size w0 w) (h:Z24.f k aJ bH bI=some (r1,r2,r3,r4)) :
  Calls Try.prog 69 #[.pointer (some ⟨g,0,none⟩)] w fun e w'=>∃ cR:Value,e=.returned (.agg #[r1,cR])∧Kd.R (Kd.int .i64) 3 w' w.heap.size (fun _=>True) cR r2∧IsS76 w0 w' g aJ r3 r4∧Below w0.heap.size w0 w'∧KeepBut w w' g none:=by
 have aH:=aM hI;have HK:=aM (KeepBut.refl w g none);have HL:=aM hB.size;clear hI;have HW0:=aM hB.size;have HB:=aM hB;clear hB;have H:((Z3.f aJ bH bI 3).bind fun bO=>(Z24.l0 k 1 aJ bO.2.1 bO.2.2 (wrap64 (1+bO.1)) ([]:List Int)))=some (r1,r2,r3,r4):=h
 clear h;obtain ⟨⟨aG,bP,bQ⟩,cS,H⟩:=hB H
 try dsimp only at H
 have A2:=aM cS;clear cS;have H':=aM H;clear H;go_enter Try.func69,Try.ntmps69
 go_wp2_with (first|((with_reducible refine gD (N:=2) rfl ?_);refine bE (N:=2) (cs:=#[.int .i64 0,.slice none 0 0]) (t:=42) ?_;intro bJ hg w3 hbox hb;have aD:=aM (hbox);have eG:=gE hg (keep_size (km HK.out));have eH:=gE2 HW0.out hg (keep_size (km HK.out));have cA:=nL hg (IsS76.lt (show IsS76 w0 _ g aJ bH bI from IsS76.mv aH.out));have bA:=nG hg (IsS76.lt (show IsS76 w0 _ g aJ bH bI from IsS76.mv aH.out));replace aH:=aM (IsS76.below (IsS76.mv aH.out) hb);replace HK:=rU HK hb;replace HB:=aM (bS (IsS76.bl HB.out) hb);clear hb hbox hg)|((with_reducible refine gC (f:=22) rfl ?_);refine gL (some 6) Try.func22 #[.pointer (some ⟨g,0,none⟩),.int .i64 3] ?_;(with_reducible refine (Z3.calls g aJ bH bI 3 aG bP bQ w0 _ ?side1 ?side2 A2.out).mono ?_);(case side1=>exact IsS76.mv aH.out);(case side2=>exact IsS76.bl HB.out);rintro e w4 ⟨rfl,hi,hb,hk⟩;refine ⟨_,rfl,?_⟩;replace aD:=rP hk aD bA;replace HK:=aM (KeepBut.trans (km HK.out) hk (.inl rfl));replace HB:=aM (hb);replace aH:=aM (hi);(repeat first|clear hb|clear hk|clear hi))|((with_reducible refine gD (N:=3) rfl ?_);refine bE (N:=3) (cs:=#[.int .i64 0,.slice none 0 0]) (t:=42) ?_;intro aT hg w5 hbox hb;have aA:=aM (hbox);have eI:=gE hg (keep_size (km HK.out));have eJ:=gE2 HW0.out hg (keep_size (km HK.out));have aV:=nM hg aD;have aW:=nH hg aD;have aX:=nL hg (IsS76.lt (show IsS76 w0 _ g aJ bP bQ from IsS76.mv aH.out));have aQ:=nG hg (IsS76.lt (show IsS76 w0 _ g aJ bP bQ from IsS76.mv aH.out));replace aH:=aM (IsS76.below (IsS76.mv aH.out) hb);replace aD:=rB aD hb;replace HK:=rU HK hb;replace HB:=aM (bS (IsS76.bl HB.out) hb);clear hb hbox hg;have fI:=cA2 aA.out))
 go_loopg [4] k (fun kq v4 w'=>∃ (aI:Int) (aK:Int) (aN:Int) (aE:List Int) (u128001:Value),v4=.int .i64 aI∧Aside0 (Z24.l0 kq aI aJ aK aN (wrap64 (1+aG)) aE=some (r1,r2,r3,r4))∧Aside0 (kq≤k)∧Aside0 (Kd.R (Kd.int .i64) 3 w' w.heap.size (fun _=>True) u128001 aE)∧Aside0 (w'.heap[bJ]?=some (.cells #[.int .i64 0,(.slice none 0 0)] 42 (0,0)))∧Aside0 (w'.heap[aT]?=some (.cells #[.int .i64 (wrap64 (1+aG)),u128001] 42 (0,0)))∧Aside0 (IsS76 w0 w' g aJ aK aN)∧Aside0 (KeepBut w w' g none)∧Aside0 (Below w0.heap.size w0 w'))
 case atStart=>exact ⟨(1),(bP),(bQ),(([]:List Int)),(.slice none 0 0),xE,H',⟨Nat.le_refl _⟩,⟨by exact Kd.R_nil _ _ _ _ _⟩,⟨fm aD.out⟩,⟨bm aA.out⟩,⟨IsS76.mv aH.out⟩,⟨km HK.out⟩,⟨IsS76.bl HB.out⟩⟩
 case round =>
  clear H'
  repeat first|clear c2|clear p2|clear c6|clear p6|clear c7
  obtain ⟨aI,aK,aN,aE,u128001,rfl,HA,bN,aC,aD,aA,aH,HK,HB⟩:=hrel;cases gk with
  | zero=>exact absurd HA.out (by simp [Z24.l0])
  | succ k1 =>
   have H:=HA.out;clear HA;simp only [Z24.l0] at H
   by_cases c9:aI≤4
   case neg =>
    rw [if_neg c9] at H
    have cU:=decide_eq_false c9;clear c9;simp only [Option.some.injEq,Prod.mk.injEq] at H;obtain ⟨rfl,rfl,rfl,rfl⟩:=H;have dA:wr.cell? ⟨aT,0,none⟩=some (.int .i64 (wrap64 (1+aG))):=cI aA.out 0;have dB:=cI aA.out 1;have eQ:=cA2 aD.out;obtain ⟨cC,cD,cV⟩:=Kd.R_slice aC.out;subst cV;go_wp2
    refine bodyPost_ret (results_cell_row rfl _ _ bJ 42 #[.int .i64 (wrap64 (1+aG)),.slice cC aE.length cD] (0,0) _ rfl (bm aD.out) Try.underlying42 rfl (by kernel_rfl)) rfl ?_
    exact ⟨_,xW,by (with_reducible repeat (first|apply Kd.R_alloc|apply Kd.R_drewN|apply Kd.R_drew));exact Kd.R_mono (rT2 aC.out aD.out (.int .i64 (wrap64 (1+aG))) (.slice cC aE.length cD)) (fun _ hk=>trivial),IsS76.mv aH.out,IsS76.bl HB.out,km HK.out⟩
   rw [if_pos c9] at H
   have cU:=decide_eq_true c9;clear c9
   by_cases bK:aI=(wrap64 (1+aG))
   case pos =>
    rw [if_pos bK] at H
    have cN:(aI == (wrap64 (1+aG)))=true:=beq_iff_eq.mpr bK;clear bK
    by_cases bV:aE.length<17592186044416
    case neg =>
     rw [if_neg bV] at H
     exact absurd H (by simp)
    rw [if_pos bV] at H
    have LMc11:=aM bV;clear bV;obtain ⟨bT,bD⟩:∃ y_:List Int,y_=(aE++[aI]):=⟨_,rfl⟩;replace H:(Z24.l0 k1 (wS aI) aJ aK aN (wrap64 (1+aG)) bT)=some (r1,r2,r3,r4):=by (rw [bD];with_reducible exact H)
    have cP:=aM bD;clear bD;have H':=aM H;clear H;have dE:wr.cell? ⟨aT,0,none⟩=some (.int .i64 (wrap64 (1+aG))):=cI aA.out 0;have dF:=cI aA.out 1;go_wp2_with (((with_reducible refine gate_builtin (b:=.append) (xs:=#[.tmp 22,.tmp 24]) rfl ?_);at_builtin;refine Kd.R_append (Kd.int .i64) w.heap.size rfl (.tmp 22) (.tmp 24) 40 3 (.int .i64 0) 8 rfl Try.underlying40 info3 rfl (by decide) (by omega) u128001 aE aI [.int .i64 aI] (fun _=>True) (fun _=>False) rfl rfl ?aP (fun _ hk=>hk.elim) ?aF ?aO (Below.refl _ _) ?aS ?aL ?_;(case aP=>exact rfl);(case aF=>exact (fun _ _=>trivial));(case aO=>exact (kr aC.out));(case aS=>exact (keep_size (km HK.out)));(case aL=>have:=LMc11.out;omega);intro fK eD ho hb hg hat;rw [← cP.out] at ho;have bW:=aM (ho);replace aD:=aM (blk_grown (bk aD.out) hg (Kd.R_ne aC.out aD.out (by decide)));replace aA:=aM (blk_grown (bk aA.out) hg (Kd.R_ne aC.out aA.out (by decide)));replace aH:=aM (IsS76.grown (IsS76.mv aH.out) hg (IsS76.own_ne aH.out aC.out (by decide)));replace HB:=aM (below_weaken (IsS76.bl HB.out) HL.out hb);replace HK:=aM (KeepBut.trans (km HK.out) (KeepBut.of_grown hg g) (Kd.R_base2 aC.out));clear aC;clear ho hb hg hat;obtain ⟨cE,cG,cW⟩:=Kd.R_slice bW.out;subst cW;have dJ:=cI aA.out 1;have dL:=bF aA.out 1))
    go_roundg k1
    case measure=>have:=bN.out;omega
    case rel=>exact ⟨(wS aI),(aK),(aN),(bT),(.slice cE bT.length cG),xE,H',⟨by have:=bN.out;omega⟩,⟨kr (Kd.R_mono (rU1 1 bW.out aA.out (.slice cE bT.length cG)) (fun _ hk=>trivial))⟩,⟨fm aD.out⟩,⟨by (with_reducible repeat (first|refine blk_drewN ?_ _|refine blk_drew ?_|refine blk_alloc ?_ _));refine blk_put (cs:=#[.int .i64 (wrap64 (1+aG)),u128001]) ?_ 1 _ rfl;(with_reducible repeat (first|refine blk_drewN ?_ _|refine blk_drew ?_|refine blk_alloc ?_ _));exact aA.out⟩,⟨IsS76.mv aH.out⟩,⟨km HK.out⟩,⟨IsS76.bl HB.out⟩⟩
   rw [if_neg bK] at H
   have cN:(aI == (wrap64 (1+aG)))=false:=beq_eq_false_iff_ne.mpr bK;obtain ⟨⟨cX,bL,bM⟩,cH,H⟩:=hB H
   try dsimp only at H
   have cT:=aM cH;clear cH
   by_cases bX:cX=true
   case neg =>
    replace bX:=Bool.eq_false_iff.mpr bX;subst bX;replace H:=hF H;have H':=aM H;clear H;have dM:wr.cell? ⟨aT,0,none⟩=some (.int .i64 (wrap64 (1+aG))):=cI aA.out 0;go_wp2_with ((go_at_call 23;(with_reducible refine (Z45.calls g aJ aK aN 2 false bL bM w0 _ ?side1 ?side2 cT.out).mono ?_);(case side1=>exact IsS76.mv aH.out);(case side2=>exact IsS76.bl HB.out);rintro e fM ⟨rfl,hi,hb,hk⟩;replace aC:=aM (IsS76.rJ aJ aK aN (IsS76.mv aH.out) (kr aC.out) hk);replace aD:=rP hk aD bA;replace aA:=rP hk aA aQ;replace HK:=aM (KeepBut.trans (km HK.out) hk (.inl rfl));replace HB:=aM (hb);replace aH:=aM (hi);(repeat first|clear hb|clear hk|clear hi)))
    go_roundg k1
    case measure=>have:=bN.out;omega
    case rel=>exact ⟨(wS aI),(bL),(bM),(aE),(u128001),xE,H',⟨by have:=bN.out;omega⟩,⟨kr aC.out⟩,⟨bk aD.out⟩,⟨bk aA.out⟩,⟨IsS76.mv aH.out⟩,⟨km HK.out⟩,⟨IsS76.bl HB.out⟩⟩
   subst bX;replace H:=hP H rfl
   by_cases bY:aE.length<17592186044416
   case neg =>
    rw [if_neg bY] at H
    exact absurd H (by simp)
   rw [if_pos bY] at H
   have LMc20:=aM bY;clear bY;obtain ⟨bU,bG⟩:∃ y_:List Int,y_=(aE++[aI]):=⟨_,rfl⟩;replace H:(Z24.l0 k1 (wS aI) aJ bL bM (wrap64 (1+aG)) bU)=some (r1,r2,r3,r4):=by (rw [bG];with_reducible exact H)
   have cQ:=aM bG;clear bG;have H':=aM H;clear H;have dQ:wr.cell? ⟨aT,0,none⟩=some (.int .i64 (wrap64 (1+aG))):=cI aA.out 0;go_wp2_with (first|(go_at_call 23;(with_reducible refine (Z45.calls g aJ aK aN 2 true bL bM w0 _ ?side1 ?side2 cT.out).mono ?_);(case side1=>exact IsS76.mv aH.out);(case side2=>exact IsS76.bl HB.out);rintro e eE ⟨rfl,hi,hb,hk⟩;replace aC:=aM (IsS76.rJ aJ aK aN (IsS76.mv aH.out) (kr aC.out) hk);replace aD:=rP hk aD bA;replace aA:=rP hk aA aQ;replace HK:=aM (KeepBut.trans (km HK.out) hk (.inl rfl));replace HB:=aM (hb);replace aH:=aM (hi);(repeat first|clear hb|clear hk|clear hi);have dW:=cI aA.out 1)|((with_reducible refine gate_builtin (b:=.append) (xs:=#[.tmp 22,.tmp 24]) rfl ?_);at_builtin;refine Kd.R_append (Kd.int .i64) w.heap.size rfl (.tmp 22) (.tmp 24) 40 3 (.int .i64 0) 8 rfl Try.underlying40 info3 rfl (by decide) (by omega) u128001 aE aI [.int .i64 aI] (fun _=>True) (fun _=>False) rfl rfl ?aP (fun _ hk=>hk.elim) ?aF ?aO (Below.refl _ _) ?aS ?aL ?_;(case aP=>exact rfl);(case aF=>exact (fun _ _=>trivial));(case aO=>exact (kr aC.out));(case aS=>exact (keep_size (km HK.out)));(case aL=>have:=LMc20.out;omega);intro fL eF ho hb hg hat;rw [← cQ.out] at ho;have bZ:=aM (ho);replace aD:=aM (blk_grown (bk aD.out) hg (Kd.R_ne aC.out aD.out (by decide)));replace aA:=aM (blk_grown (bk aA.out) hg (Kd.R_ne aC.out aA.out (by decide)));replace aH:=aM (IsS76.grown (IsS76.mv aH.out) hg (IsS76.own_ne aH.out aC.out (by decide)));replace HB:=aM (below_weaken (IsS76.bl HB.out) HL.out hb);replace HK:=aM (KeepBut.trans (km HK.out) (KeepBut.of_grown hg g) (Kd.R_base2 aC.out));clear aC;clear ho hb hg hat;obtain ⟨cK,cL,cY⟩:=Kd.R_slice bZ.out;subst cY;have eA:=cI aA.out 1;have eC:=bF aA.out 1))
   go_roundg k1
   case measure=>have:=bN.out;omega
   case rel=>exact ⟨(wS aI),(bL),(bM),(bU),(.slice cK bU.length cL),xE,H',⟨by have:=bN.out;omega⟩,⟨kr (Kd.R_mono (rU1 1 bZ.out aA.out (.slice cK bU.length cL)) (fun _ hk=>trivial))⟩,⟨fm aD.out⟩,⟨by (with_reducible repeat (first|refine blk_drewN ?_ _|refine blk_drew ?_|refine blk_alloc ?_ _));refine blk_put (cs:=#[.int .i64 (wrap64 (1+aG)),u128001]) ?_ 1 _ rfl;(with_reducible repeat (first|refine blk_drewN ?_ _|refine blk_drew ?_|refine blk_alloc ?_ _));exact aA.out⟩,⟨IsS76.mv aH.out⟩,⟨km HK.out⟩,⟨IsS76.bl HB.out⟩⟩

def Z5.f (a0 a1 a2:Int):Option (Bool):=if a0 ≥ a1 then (some (decide (a0≤a2))) else (some false)
set_option maxHeartbeats 60000000 in
set_option maxRecDepth 100000 in
theorem Z5.calls (a0 a1 a2:Int) (r:Bool) (w:World) (h:Z5.f a0 a1 a2=some r) :
  Calls Try.prog 31 #[a0,a1,a2] w fun e w'=>e=.returned (.bool r)∧Drawn0 w w':=by
 have H:(if a0 ≥ a1 then (some (decide (a0≤a2))) else (some false))=some r:=h;clear h
 by_cases c4:a0 ≥ a1
 case pos =>
  rw [if_pos c4] at H
  have aA:=decide_eq_true c4;clear c4;obtain rfl:=Option.some.inj H;go_enter Try.func31,Try.ntmps31
  go_wp2
  go_ret
  exact ⟨by rfl,by repeat (exact Drawn0.refl _)⟩
 rw [if_neg c4] at H
 have aA:=decide_eq_false c4;clear c4;obtain rfl:=Option.some.inj H;go_enter Try.func31,Try.ntmps31
 go_wp2
 go_ret
 exact ⟨by rfl,by repeat (exact Drawn0.refl _)⟩

def Z54.f (aD aA aG aH aE aC aI aJ:Int):Option (Bool):=if aA<aC then (some true) else (if aA=aC then (some (decide (aD<aE))) else (some false))
set_option maxHeartbeats 60000000 in
set_option maxRecDepth 100000 in
theorem Z54.calls (aI aC aK aN aJ aD aQ aT:Int) (r:Bool) (w:World) (h:Z54.f aI aC aK aN aJ aD aQ aT=some r) :
  Calls Try.prog 64 #[.agg #[aI,aC,aK,aN],.agg #[aJ,aD,aQ,aT]] w fun e w'=>e=.returned (.bool r)∧Below w.heap.size w w':=by
 have HB:=aM (Below.refl w.heap.size w);have H:(if aC<aD then (some true) else (if aC=aD then (some (decide (aI<aJ))) else (some false)))=some r:=h;clear h
 by_cases c3:aC<aD
 case pos =>
  rw [if_pos c3] at H
  have bH:=decide_eq_true c3;clear c3;obtain rfl:=Option.some.inj H;go_enter Try.func64,Try.ntmps64
  go_wp2_with (first|((with_reducible refine gD (N:=2) rfl ?_);refine bE (N:=2) (cs:=#[aI,aC,aK,aN]) (t:=72) ?_;intro aV hg w4 hbox hb;have aA:=aM (hbox);replace HB:=rS HB hb;clear hb hbox hg)|((with_reducible refine gD (N:=3) rfl ?_);refine bE (N:=3) (cs:=#[aJ,aD,aQ,aT]) (t:=72) ?_;intro bA hg w5 hbox hb;have aH:=aM (hbox);have aE:=nM hg aA;have aG:=nH hg aA;replace aA:=rB aA hb;replace HB:=rS HB hb;clear hb hbox hg;have bX:=cA4 aA.out;have bY:=cA4 aH.out))
  go_ret
  exact ⟨xW,bl HB.out⟩
 rw [if_neg c3] at H
 have bH:=decide_eq_false c3;clear c3
 by_cases c9:aC=aD
 case neg =>
  rw [if_neg c9] at H
  have bI:(aC == aD)=false:=beq_eq_false_iff_ne.mpr c9;obtain rfl:=Option.some.inj H;go_enter Try.func64,Try.ntmps64
  go_wp2_with (first|((with_reducible refine gD (N:=2) rfl ?_);refine bE (N:=2) (cs:=#[aI,aC,aK,aN]) (t:=72) ?_;intro aV hg bZ hbox hb;have aA:=aM (hbox);replace HB:=rS HB hb;clear hb hbox hg)|((with_reducible refine gD (N:=3) rfl ?_);refine bE (N:=3) (cs:=#[aJ,aD,aQ,aT]) (t:=72) ?_;intro bA hg cA hbox hb;have aH:=aM (hbox);have aE:=nM hg aA;have aG:=nH hg aA;replace aA:=rB aA hb;replace HB:=rS HB hb;clear hb hbox hg;have bM:=cA4 aA.out;have bN:=cA4 aH.out))
  go_ret
  exact ⟨xW,bl HB.out⟩
 rw [if_pos c9] at H
 have bI:(aC == aD)=true:=beq_iff_eq.mpr c9;clear c9;obtain rfl:=Option.some.inj H;go_enter Try.func64,Try.ntmps64
 go_wp2_with (first|((with_reducible refine gD (N:=2) rfl ?_);refine bE (N:=2) (cs:=#[aI,aC,aK,aN]) (t:=72) ?_;intro aV hg cC hbox hb;have aA:=aM (hbox);replace HB:=rS HB hb;clear hb hbox hg)|((with_reducible refine gD (N:=3) rfl ?_);refine bE (N:=3) (cs:=#[aJ,aD,aQ,aT]) (t:=72) ?_;intro bA hg cD hbox hb;have aH:=aM (hbox);have aE:=nM hg aA;have aG:=nH hg aA;replace aA:=rB aA hb;replace HB:=rS HB hb;clear hb hbox hg;have bQ:=cA4 aA.out;have bT:=cA4 aH.out))
 go_ret
 exact ⟨xW,bl HB.out⟩

end Go.Proofs.Ytjodolkdelffaaa.PFnCards
