/- A part of the proof of laws.FnExactPass. No condition beyond what its theorems say. -/
/- The machine side of laws.FnExactPass: where the plain function of that name answers true, its call returns true. No condition beyond what its arguments read as. -/
import Derived.Test.YtfljolhhgheheaaVFnExactPassPx9
import Derived.Test.YtfljolhhgheheaaVFnExactPassPx19
import Derived.Test.YtfljolhhgheheaaVFnExactPassPx22
import Derived.Test.YtfljolhhgheheaaVFnExactPassPx24
namespace Go.Proofs.Ytfljolhhgheheaa.PFnExactPass
open Go.RowKit Go.Proofs.YtfljolhhgheheaaW.PrintWords Go.Proofs.YtfljolhhgheheaaW.PrintLast Go.Proofs.YtfljolhhgheheaaW.PrintMore
set_option linter.unusedVariables false
set_option linter.unusedSimpArgs false

/-- One member's own row, lent to what writes it, and the members back behind that. -/
theorem fld90_0 (w:World) (x0:Int) (x1:Int) (x2:Int) (x3:Int):(Instr.field 90 (.agg #[.int .i64 x0,.int .i64 x1,.int .i64 x2,.int .i64 x3]) 0).run Try.prog w=.ok (.int .i64 x0) w:=by kernel_rfl
theorem fld90_1 (w:World) (x0:Int) (x1:Int) (x2:Int) (x3:Int):(Instr.field 90 (.agg #[.int .i64 x0,.int .i64 x1,.int .i64 x2,.int .i64 x3]) 1).run Try.prog w=.ok (.int .i64 x1) w:=by kernel_rfl
theorem fld90_2 (w:World) (x0:Int) (x1:Int) (x2:Int) (x3:Int):(Instr.field 90 (.agg #[.int .i64 x0,.int .i64 x1,.int .i64 x2,.int .i64 x3]) 2).run Try.prog w=.ok (.int .i64 x2) w:=by kernel_rfl
theorem fld90_3 (w:World) (x0:Int) (x1:Int) (x2:Int) (x3:Int):(Instr.field 90 (.agg #[.int .i64 x0,.int .i64 x1,.int .i64 x2,.int .i64 x3]) 3).run Try.prog w=.ok (.int .i64 x3) w:=by kernel_rfl
theorem fld86_0 (w:World) (x0:Int) (x1:Int) (x2:Int) (x3:Int):(Instr.field 86 (.agg #[.int .i64 x0,.int .i64 x1,.int .i64 x2,.int .i64 x3]) 0).run Try.prog w=.ok (.int .i64 x0) w:=by kernel_rfl
theorem fld86_1 (w:World) (x0:Int) (x1:Int) (x2:Int) (x3:Int):(Instr.field 86 (.agg #[.int .i64 x0,.int .i64 x1,.int .i64 x2,.int .i64 x3]) 1).run Try.prog w=.ok (.int .i64 x1) w:=by kernel_rfl
theorem fld86_2 (w:World) (x0:Int) (x1:Int) (x2:Int) (x3:Int):(Instr.field 86 (.agg #[.int .i64 x0,.int .i64 x1,.int .i64 x2,.int .i64 x3]) 2).run Try.prog w=.ok (.int .i64 x2) w:=by kernel_rfl
theorem fld86_3 (w:World) (x0:Int) (x1:Int) (x2:Int) (x3:Int):(Instr.field 86 (.agg #[.int .i64 x0,.int .i64 x1,.int .i64 x2,.int .i64 x3]) 3).run Try.prog w=.ok (.int .i64 x3) w:=by kernel_rfl
attribute [local go_sem high] fld90_0 fld90_1 fld90_2 fld90_3 fld86_0 fld86_1 fld86_2 fld86_3
theorem member_lend {W:World} {base g n cap:Nat} {ok:Nat→Prop} {xs:List S60} {i:Int} {A:Option Addr} {c:Nat}
  (h:Kd.S k60 60 W base ok (.slice (some ⟨g,0,none⟩) n cap) xs) (h0:0≤i) (h1:i<n) (hc:W.cell? ⟨g,i.toNat*2+1,none⟩=some (.slice A ((rd_T60 xs i).f1).length c)) :
  ∃ oki:Nat→Prop,(∀ k,oki k→ok k)∧Kd.R (Kd.int .i64) 3 W base oki (.slice A ((rd_T60 xs i).f1).length c) (rd_T60 xs i).f1 ∧
   ∀ {w1:World} {ys:List Int},Kept W w1 oki→Kd.R (Kd.int .i64) 3 w1 base (fun k=>oki k∨W.heap.size≤k) (.slice A ((rd_T60 xs i).f1).length c) ys →
    Kd.S k60 60 w1 base ok (.slice (some ⟨g,0,none⟩) n cap) (xs.set i.toNat (⟨(rd_T60 xs i).f0,ys⟩:S60)):=by
 obtain ⟨oki,cs,hcl,hM,hcc,hoki,hH⟩:=Kd.S_lend h z60 i h0 h1;obtain ⟨v1,rfl,ge⟩:=k60_openM hM;have hv2:W.cell? ⟨g,i.toNat*2+1,none⟩=some v1:=hcc 1 _ rfl;obtain rfl:v1=.slice A ((rd_T60 xs i).f1).length c:=Option.some.inj (hv2.symm.trans hc);refine ⟨oki,fun k hk=>(hoki k hk).1,ge,fun {w1 ys} hK hy=>?_⟩
 have hH':=Kd.H_step hH (fun k _ hn hlt=>hK.2 k hlt hn)
 exact Kd.H_back hH' (k60_mkM _ _ _ (⟨(rd_T60 xs i).f0,ys⟩:S60) (Kd.R_reok rfl hy (fun k e=>ge.1 k e))) (fun _ hk=>hk)
def Y44.l0:Nat→List (S60)→Int→Int→Option (Int × (List (S60)))
 | 0,_,_,_=>none
 | k+1,x0,x1,x5=>if x5<(x0.length:Int) then (if 0≤x5 then ((some (x0.set (x5:Int).toNat (⟨x1,(rd_T60 x0 x5).f1⟩:S60):List (S60))).bind fun y592=>((Y37.f k ((rd_T60 y592 x5).f1) (wrap64 (x1+1))).bind fun bt594=>(Y44.l0 k (y592.set (x5:Int).toNat (⟨(rd_T60 y592 x5).f0,bt594.2⟩:S60)) bt594.1 (wrap64 (x5+1))))) else (none)) else (some (x1,x0))
def Y44.f (k:Nat) (l0:List (S60)) (a1:Int):Option (Int × (List (S60))):=Y44.l0 k l0 a1 0
theorem Y44.mono_l:∀ k,(∀ y0 y1 y2,LeO (Y44.l0 k y0 y1 y2) (Y44.l0 (k+1) y0 y1 y2))
 | 0=>fun _ _ _ r h=>by simp [Y44.l0] at h
 | k+1=>by
  have ih0:=Y44.mono_l k
  ·intro y0 y1 y2
   unfold Y44.l0
   repeat' first
   | (with_reducible exact ih0 _ _ _)
   | (with_reducible exact Y37.mono _ _ _)
   | (with_reducible exact LeO.refl _)
   | (with_reducible exact LeO.none _)
   | (with_reducible refine LeO.ite ?_ ?_)
   | (with_reducible refine LeO.bind ?_ (fun _=>?_))
   | exact ih0 _ _ _
   | exact LeO.none _
   | refine LeO.ite ?_ ?_
   | refine LeO.bind ?_ (fun _=>?_)
theorem Y44.mono:∀ a0 a1 k,LeO (Y44.f k a0 a1) (Y44.f (k+1) a0 a1):=by
 intro a0 a1 k;have ih0:=Y44.mono_l k;unfold Y44.f
 repeat' first
   | (with_reducible exact ih0 _ _ _)
   | (with_reducible exact LeO.refl _)
   | (with_reducible exact LeO.none _)
   | (with_reducible refine LeO.ite ?_ ?_)
   | (with_reducible refine LeO.bind ?_ (fun _=>?_))
   | exact ih0 _ _ _
   | exact LeO.none _
   | refine LeO.ite ?_ ?_
   | refine LeO.bind ?_ (fun _=>?_)
set_option maxHeartbeats 60000000 in
set_option maxRecDepth 100000 in
theorem Y44.calls (k:Nat) (P0_:Nat→Prop) (u9000_:Value) (l0:List (S60)) (a1:Int) (r1:Int) (r2:List (S60)) (w0 w:World) (hB:Below w0.heap.size w0 w) (ho0:Kd.S k60 60 w w0.heap.size P0_ u9000_ l0) (h:Y44.f k l0 a1=some (r1,r2)) :
  Calls Try.prog 46 #[u9000_,.int .i64 a1] w fun e w'=>e=.returned (.int .i64 r1)∧Kd.S k60 60 w' w0.heap.size (fun k_=>P0_ k_) u9000_ r2∧Below w0.heap.size w0 w'∧Kept w w' (fun k_=>P0_ k_):=by
 have HO0:=aM (show Kd.S k60 60 w w0.heap.size (fun k_=>P0_ k_) u9000_ l0 from ho0)
 have HK:=aM (Kept.refl w (fun k_=>P0_ k_))
 have HW0:=aM hB.size;have HB:=aM hB;clear hB;have H:(Y44.l0 k l0 a1 0)=some (r1,r2):=h;clear h;have H':=aM H;clear H;go_enter Try.func46,Try.ntmps46
 go_wp2
 go_loopg [1,5] k (fun kq v1 v5 w'=>∃ (x0_1:List (S60)) (x1_1:Int) (x5_1:Int),v1=.int .i64 x1_1∧v5=.int .i64 x5_1∧Aside0 (Y44.l0 kq x0_1 x1_1 x5_1=some (r1,r2))∧Aside0 (kq≤k)∧Aside0 (Kd.S k60 60 w' w0.heap.size (fun k_=>P0_ k_) u9000_ x0_1)∧Aside0 (Kept w w' (fun k_=>P0_ k_))∧Aside0 (Below w0.heap.size w0 w'))
 case atStart=>exact ⟨(l0),(a1),(0),xE,xE,H',⟨Nat.le_refl _⟩,⟨ks HO0.out⟩,⟨by repeat (first|(with_reducible first|exact HK.out|apply Kept.alloc|apply Kept.drewN|apply Kept.drew)|exact HK.out)⟩,⟨bl HB.out⟩⟩
 case round =>
  clear H'
  try clear p2
  obtain ⟨x0_1,x1_1,x5_1,rfl,rfl,HA,HK1,HO_0,HK,HB⟩:=hrel;cases gk with
  | zero=>exact absurd HA.out (by simp [Y44.l0])
  | succ k1 =>
   have H:=HA.out;clear HA;simp only [Y44.l0] at H
   by_cases c3:x5_1<(x0_1.length:Int)
   case neg =>
    rw [if_neg c3] at H
    have c3b0:decide (x5_1<(x0_1.length:Int))=false:=decide_eq_false c3;clear c3;simp only [Option.some.injEq,Prod.mk.injEq] at H;obtain ⟨rfl,rfl⟩:=H;obtain ⟨Ao10,co10,eo10⟩:=Kd.S_slice HO_0.out;subst eo10;go_wp2
    go_ret
    exact ⟨xW,ks HO_0.out,bl HB.out,by repeat (first|(with_reducible first|exact HK.out|apply Kept.alloc|apply Kept.drewN|apply Kept.drew)|exact HK.out)⟩
   rw [if_pos c3] at H
   have c3b0:decide (x5_1<(x0_1.length:Int))=true:=decide_eq_true c3;clear c3
   by_cases c4:0≤x5_1
   case neg =>
    rw [if_neg c4] at H
    exact absurd H (by simp)
   rw [if_pos c4] at H
   have c4b0:decide (0≤x5_1)=true:=decide_eq_true c4;clear c4;obtain ⟨y592,hy592⟩:∃ y_:List (S60),y_=(x0_1.set (x5_1:Int).toNat (⟨x1_1,(rd_T60 x0_1 x5_1).f1⟩:S60)):=⟨_,rfl⟩;replace H:((Y37.f k1 ((rd_T60 y592 x5_1).f1) (wrap64 (x1_1+1))).bind fun bt594=>(Y44.l0 k1 (y592.set (x5_1:Int).toNat (⟨(rd_T60 y592 x5_1).f0,bt594.2⟩:S60)) bt594.1 (wrap64 (x5_1+1))))=some (r1,r2):=by first|(rw [hy592];with_reducible exact H)|(have H2_:=(Option.bind_some _ _).symm.trans H;rw [hy592];with_reducible exact H2_)|(have H2_:=(Option.bind_some _ _).symm.trans H;with_reducible exact H2_)|with_reducible exact H|(rw [hy592];exact H)|exact H
   have Ny592:=aM hy592;clear hy592;replace H:=Option.bind_eq_some_iff.mp H;obtain ⟨⟨t594,t594r⟩,A60,H⟩:=H;replace H:(Y44.l0 k1 (y592.set (x5_1:Int).toNat (⟨(rd_T60 y592 x5_1).f0,t594r⟩:S60)) t594 (wrap64 (x5_1+1)))=some (r1,r2):=H;have A6:=aM A60;clear A60;have H':=aM H;clear H;obtain ⟨Ao7,co7,eo7⟩:=Kd.S_slice HO_0.out;subst eo7;have p5:0≤(x5_1:Int):=of_decide_eq_true (by first|(with_reducible assumption)|assumption)
   have q5:(x5_1:Int)<((x0_1.length:Int):Int):=of_decide_eq_true (by first|(with_reducible assumption)|assumption)
   obtain ⟨go5,co5,eo5,gb5,gl5,cl5,HG5⟩:=Kd.S_form HO_0.out (by omega)
   (first|cases eo5|(injection eo5 with ea_ en_ ec_;(first|subst ea_|(injection ea_ with ea_;subst ea_));subst ec_;clear en_))
   have GB5:=aM gb5;have GG5:=aM HG5;clear gb5 gl5 HG5;obtain ⟨_,ce5,hcl5,hM5,hcc5,hfr5,_,_⟩:=Kd.S_elem HO_0.out z60 (x5_1:Int) p5 q5;obtain ⟨ve5_1,rfl,ge5_1⟩:=k60_openM hM5;have hx5_0:wr.cell? ⟨go5,(x5_1:Int).toNat*2,none⟩=some (.int .i64 ((rd_T60 x0_1 x5_1).f0)):=hcc5 0 _ rfl;have hx5_1:wr.cell? ⟨go5,(x5_1:Int).toNat*2+1,none⟩=some (ve5_1):=hcc5 1 _ rfl;have hf5_0:wr.frozen? ⟨go5,(x5_1:Int).toNat*2,none⟩=false:=hfr5 0;have hf5_1:wr.frozen? ⟨go5,(x5_1:Int).toNat*2+1,none⟩=false:=hfr5 1;clear hcl5 hcc5 hfr5 hM5;replace p5:=eq_true p5;replace q5:=eq_true q5;have HX8:=aM (show Kd.S k60 60 wr w0.heap.size (fun k_=>((fun k_=>P0_ k_)) k_∧¬ ((fun _=>False)) k_) (.slice (some ⟨go5,0,none⟩) x0_1.length co7) x0_1 from (ks (Kd.S_mono HO_0.out (fun k_ hk=>⟨hk,fun e_=>e_⟩))))
   obtain ⟨oki8,ce8,hcl8,hM8,hcc8,hfr8,hoki8,hH8⟩:=Kd.S_elem HX8.out z60 (x5_1:Int) (of_decide_eq_true (by first|(with_reducible assumption)|assumption)) (by have h_:(x5_1:Int)<((x0_1.length:Int):Int):=of_decide_eq_true (by first|(with_reducible assumption)|assumption);first|exact h_|(have e_:=(Kd.S_reads' HO_0.out).1;omega)|simpa using h_)
   obtain ⟨ve8_1,rfl,ge8_1⟩:=k60_openM hM8;have HP8:=Kd.S_seg hH8 (of_decide_eq_true (by first|(with_reducible assumption)|assumption)) (by have h_:(x5_1:Int)<((x0_1.length:Int):Int):=of_decide_eq_true (by first|(with_reducible assumption)|assumption);first|exact h_|(have e_:=(Kd.S_reads' HO_0.out).1;omega)|simpa using h_) (seg:=[.int .i64 x1_1]) (j:=0) (show 1≤2 from by decide) (x':=(⟨x1_1,(rd_T60 x0_1 x5_1).f1⟩:S60)) (k60_mkM _ _ _ (⟨x1_1,(rd_T60 x0_1 x5_1).f1⟩:S60) (Kd.R_mono ge8_1 (fun _ h_=>Or.inl h_))) (fun _ hk=>hk) (fun k_ hk_=>hk_.elim)
   have hx8_0:=hcc8 0 _ rfl
   (try simp only [show (k60).sz=2 from rfl,Nat.mul_one,Nat.add_zero] at hx8_0)
   have hf8_0:=hfr8 0
   (try simp only [show (k60).sz=2 from rfl,Nat.mul_one,Nat.add_zero] at hf8_0)
   clear hcl8 hcc8 hfr8 hM8 hoki8 hH8;go_wp2_with (first|((with_reducible refine gate_store (t:=3) (p:=16) rfl ?_);refine store_event (t:=3) (p:=16) (v:=?vo_w9) (w1:=(wr.setCell ⟨go5,(x5_1:Int).toNat*2,none⟩ (.int .i64 x1_1))) ?hg ?ho ?hn ?hr ?_;(case ho=>rfl);(case hg=>rfl);(case hn=>rfl);(case hr=>first|(go_simp;done)|(go_simp;rfl)|(obtain ⟨A_,c_,e_⟩:=Kd.R_slice HO_0.out;subst e_;(first|(go_simp;done)|(go_simp;rfl)))|(obtain ⟨A_,c_,e_⟩:=Kd.S_slice HO_0.out;subst e_;(first|(go_simp;done)|(go_simp;rfl))));intro w9 hw;have hg:wr.grownBy w9 (some go5):=(by rw [hw];exact HP8.2);have hp_:Kd.S k60 60 w9 w0.heap.size (fun k_=>P0_ k_) (.slice (some ⟨go5,0,none⟩) x0_1.length co7) y592:=(by rw [hw,Ny592.out];exact HP8.1);clear HP8;have n0_:=aM (hp_);have n1_:=aM ((by rw [hw];exact below_set (HB.out) GB5.out:Below w0.heap.size w0 w9));have n2_:=aM (Kept.of_grown (S:=(fun k_=>P0_ k_)) hg (by repeat (first|(with_reducible first|exact HK.out|apply Kept.alloc|apply Kept.drewN|apply Kept.drew)|exact HK.out)) (fun k_ e_=>.inl ((Kd.S_R HO_0.out).1 k_ e_)));clear HO_0 HB HK;have HO_0:=n0_;have HB:=n1_;have HK:=n2_;clear n0_ n1_ n2_;clear hg hw hp_;have p593:0≤(x5_1:Int):=of_decide_eq_true (by first|(with_reducible assumption)|assumption);have q593:x5_1<(y592.length:Int):=(by have h_:(x5_1:Int)<((x0_1.length:Int):Int):=of_decide_eq_true (by first|(with_reducible assumption)|assumption);first|(have e_:=(Kd.S_reads' HO_0.out).1;omega)|simpa only [Ny592.out,List.length_set] using h_);have ql593:((x5_1:Int)<((x0_1.length:Int):Int))=True:=eq_true (of_decide_eq_true (by first|(with_reducible assumption)|assumption));obtain ⟨ad593,A593_1,c593_1,e593,hx593_0,hx593_1,hl593_1,hi593_1⟩:=at_T60 (Kd.S_reads' HO_0.out).2.2 x5_1 p593 q593;obtain rfl:(⟨go5,0,none⟩:Addr)=ad593:=(by injection e593);obtain ⟨ce593,hce593,hMe593,hcc593⟩:=Kd.S_get HO_0.out z60 x5_1 p593 (by first|exact q593|exact of_decide_eq_true (by first|(with_reducible assumption)|assumption)|(have e_:=(Kd.S_reads' HO_0.out).1;omega));obtain ⟨ve593_1,rfl,ge593_1⟩:=k60_openM hMe593;have hv593_1:=hcc593 1 _ rfl;rw [add_field _ _ 1 (by omega)] at hv593_1;replace hv593_1:=Option.some.inj (hv593_1.symm.trans hx593_1);rw [hv593_1] at ge593_1;have HL593_1:=aM (show Kd.R (Kd.int .i64) 3 _ _ _ _ ((rd_T60 y592 x5_1).f1) from ge593_1);clear hv593_1 ge593_1;clear hcc593 hce593;(first|simp only [add_plain] at hx593_0|simp only [add_at] at hx593_0|simp only [Addr.add,Nat.zero_add] at hx593_0|skip);(first|simp only [add_plain] at hx593_1|simp only [add_at] at hx593_1|simp only [Addr.add,Nat.zero_add] at hx593_1|skip);have HR593_1:=aM hi593_1;have HC593_1:=aM hl593_1;clear hi593_1 hl593_1;replace p593:=eq_true p593;replace q593:=eq_true q593)|((with_reducible refine gate_callee (f:=76) rfl ?_);refine goesL_ (some 25) rfl rfl Try.func76 (by kernel_rfl) rfl #[.slice A593_1 ((rd_T60 y592 x5_1).f1).length c593_1,.int .i64 (wrap64 (x1_1+1))] rfl xR ?_;obtain ⟨oki_,hoki_,hge_,hback_⟩:=member_lend HO_0.out (of_decide_eq_true (by first|(with_reducible assumption)|assumption)) (of_decide_eq_true (by first|(with_reducible assumption)|assumption)) hx593_1;(with_reducible refine (Y37.calls k1 oki_ _ ((rd_T60 y592 x5_1).f1) (wrap64 (x1_1+1)) t594 t594r w0 _ HB.out hge_ A6.out).mono ?_);rintro e w77 ⟨rfl,hy,hb,hkp⟩;refine ⟨_,rfl,?_⟩;have n0_:=aM (hback_ hkp hy);have n1_:=aM hb;have n2_:=aM (Kept.then_ HK.out hkp (fun k_ hk_=>.inl (hoki_ k_ hk_)));clear HO_0 HB HK;have HO_0:=n0_;have HB:=n1_;have HK:=n2_;clear n0_ n1_ n2_))
   go_roundg k1
   case measure=>have:=HK1.out;omega
   case rel=>exact ⟨(y592.set (x5_1:Int).toNat (⟨(rd_T60 y592 x5_1).f0,t594r⟩:S60)),(t594),(wrap64 (x5_1+1)),xE,xE,H',⟨by have:=HK1.out;omega⟩,⟨ks HO_0.out⟩,⟨by repeat (first|(with_reducible first|exact HK.out|apply Kept.alloc|apply Kept.drewN|apply Kept.drew)|exact HK.out)⟩,⟨bl HB.out⟩⟩

/-- A card in memory, its blocks within U: its three rows, none of whose blocks is another's. -/
def CardS (B:Nat) (W:World) (U:Nat→Prop) (v0 v1 v2:Value) (o:List Bool) (m:List S60) (t:List S86):Prop :=
 ∃ P0 P1 P2:Nat→Prop,(∀ k,P0 k→U k)∧(∀ k,P1 k→U k)∧(∀ k,P2 k→U k)∧(∀ k,P0 k→¬ P1 k)∧(∀ k,P0 k→¬ P2 k)∧(∀ k,P1 k→¬ P2 k) ∧
  Kd.R Kd.bool 4 W B P0 v0 o∧Kd.S k60 60 W B P1 v1 m∧Kd.R k86 86 W B P2 v2 t
theorem CardS.kept {B:Nat} {W W':World} {U:Nat→Prop} {v0 v1 v2:Value} {o:List Bool} {m:List S60} {t:List S86} {Q:Nat→Prop} (h:CardS B W U v0 v1 v2 o m t) (hK:Kept W W' Q) (hq:∀ k,U k→¬ Q k):CardS B W' U v0 v1 v2 o m t:=by
 obtain ⟨P0,P1,P2,a0,a1,a2,d1,d2,d3,h0,h1,h2⟩:=h;exact ⟨P0,P1,P2,a0,a1,a2,d1,d2,d3,Kd.R_step h0 (fun k hk hlt=>hK.2 k hlt (hq k (a0 k hk))),Kd.S_step h1 (fun k hk hlt=>hK.2 k hlt (hq k (a1 k hk))),Kd.R_step h2 (fun k hk hlt=>hK.2 k hlt (hq k (a2 k hk)))⟩
theorem CardS.below {B:Nat} {W W':World} {U:Nat→Prop} {v0 v1 v2:Value} {o:List Bool} {m:List S60} {t:List S86} (h:CardS B W U v0 v1 v2 o m t) (hb:Below W.heap.size W W'):CardS B W' U v0 v1 v2 o m t :=
 h.kept (Kept.of_below hb (fun _=>False)) (fun _ _ hk=>hk)
theorem CardS.make {B:Nat} {W W':World} {v0 v1 v2:Value} {o:List Bool} {m:List S60} {t:List S86} (hB:B≤W.heap.size) (h0:Kd.R Kd.bool 4 W' W.heap.size (fun _=>True) v0 o) (h1:Kd.S k60 60 W' W.heap.size (fun _=>True) v1 m) (h2:Kd.R k86 86 W' W.heap.size (fun _=>True) v2 t) :
  CardS B W' (fun k=>W.heap.size≤k∧k<W'.heap.size) v0 v1 v2 o m t:=by
 have ty:∀ (k q q':Nat) (c c':Array Value),W'.heap[k]?=some (.cells c q (0,0))→W'.heap[k]?=some (.cells c' q' (0,0))→q=q':=by
  intro k q q' c c' e1 e2;rw [e1] at e2
  injection e2 with e2
  injection e2
 refine ⟨fun k=>(W.heap.size≤k∧k<W'.heap.size)∧∃ q,q∈4 :: Kd.bool.E∧∃ cells,W'.heap[k]?=some (.cells cells q (0,0)),
  fun k=>(W.heap.size≤k∧k<W'.heap.size)∧∃ q,q∈60 :: k60.E∧∃ cells,W'.heap[k]?=some (.cells cells q (0,0)),
  fun k=>(W.heap.size≤k∧k<W'.heap.size)∧∃ q,q∈86 :: k86.E∧∃ cells,W'.heap[k]?=some (.cells cells q (0,0)),
  fun k hk=>hk.1,fun k hk=>hk.1,fun k hk=>hk.1,?_,?_,?_,
  Kd.R_lower (Kd.R_mono (Kd.R_bound h0) (fun k hk=>⟨⟨hk.2.1,hk.2.2.1⟩,hk.2.2.2⟩)) hB,Kd.S_lower (Kd.S_mono (Kd.S_bound h1) (fun k hk=>⟨⟨hk.2.1,hk.2.2.1⟩,hk.2.2.2⟩)) hB,Kd.R_lower (Kd.R_mono (Kd.R_bound h2) (fun k hk=>⟨⟨hk.2.1,hk.2.2.1⟩,hk.2.2.2⟩)) hB⟩
 ·rintro k ⟨_,q,hq,c,hc⟩ ⟨_,q',hq',c',hc'⟩
  have:=ty k q q' c c' hc hc';subst this;exact absurd hq' ((show ∀ q,q∈4 :: Kd.bool.E→¬ q∈60 :: k60.E by decide) q hq)
 ·rintro k ⟨_,q,hq,c,hc⟩ ⟨_,q',hq',c',hc'⟩
  have:=ty k q q' c c' hc hc';subst this;exact absurd hq' ((show ∀ q,q∈4 :: Kd.bool.E→¬ q∈86 :: k86.E by decide) q hq)
 ·rintro k ⟨_,q,hq,c,hc⟩ ⟨_,q',hq',c',hc'⟩
  have:=ty k q q' c c' hc hc';subst this;exact absurd hq' ((show ∀ q,q∈60 :: k60.E→¬ q∈86 :: k86.E by decide) q hq)
/-- What a Pass makes: a card, and what goes out. -/
theorem pass_make {B:Nat} {W W':World} {v0 v1 v2 v3:Value} {o:List Bool} {m:List S60} {t:List S86} {x:List S65} (hB:B≤W.heap.size) (h0:Kd.R Kd.bool 4 W' W.heap.size (fun _=>True) v0 o) (h1:Kd.S k60 60 W' W.heap.size (fun _=>True) v1 m) (h2:Kd.R k86 86 W' W.heap.size (fun _=>True) v2 t) (h3:Kd.S k65 65 W' W.heap.size (fun _=>True) v3 x) :
  ∃ U V:Nat→Prop,(∀ k,U k→W.heap.size≤k∧k<W'.heap.size)∧(∀ k,V k→W.heap.size≤k∧k<W'.heap.size)∧(∀ k,U k→¬ V k)∧CardS B W' U v0 v1 v2 o m t∧Kd.S k65 65 W' B V v3 x:=by
 have ty:∀ (k q q':Nat) (c c':Array Value),W'.heap[k]?=some (.cells c q (0,0))→W'.heap[k]?=some (.cells c' q' (0,0))→q=q':=by
  intro k q q' c c' e1 e2;rw [e1] at e2
  injection e2 with e2
  injection e2
 have d:∀ (l l':List Nat),(∀ q,q∈l→¬ q∈l')→∀ k,((W.heap.size≤k∧k<W'.heap.size)∧∃ q,q∈l∧∃ cells,W'.heap[k]?=some (.cells cells q (0,0)))→¬ ((W.heap.size≤k∧k<W'.heap.size)∧∃ q,q∈l'∧∃ cells,W'.heap[k]?=some (.cells cells q (0,0))):=by
  rintro l l' hl k ⟨_,q,hq,c,hc⟩ ⟨_,q',hq',c',hc'⟩;have:=ty k q q' c c' hc hc';subst this;exact hl q hq hq'
 have s:∀ (l l':List Nat),(∀ q,q∈l→q∈l')→∀ k,((W.heap.size≤k∧k<W'.heap.size)∧∃ q,q∈l∧∃ cells,W'.heap[k]?=some (.cells cells q (0,0)))→((W.heap.size≤k∧k<W'.heap.size)∧∃ q,q∈l'∧∃ cells,W'.heap[k]?=some (.cells cells q (0,0))) :=
  fun l l' hl k ⟨h,q,hq,c⟩=>⟨h,q,hl q hq,c⟩
 refine ⟨fun k=>(W.heap.size≤k∧k<W'.heap.size)∧∃ q,q∈((4 :: Kd.bool.E)++((60 :: k60.E)++(86 :: k86.E)))∧∃ cells,W'.heap[k]?=some (.cells cells q (0,0)),
  fun k=>(W.heap.size≤k∧k<W'.heap.size)∧∃ q,q∈65 :: k65.E∧∃ cells,W'.heap[k]?=some (.cells cells q (0,0)),fun k hk=>hk.1,fun k hk=>hk.1,d _ _ (by decide),
  ⟨fun k=>(W.heap.size≤k∧k<W'.heap.size)∧∃ q,q∈4 :: Kd.bool.E∧∃ cells,W'.heap[k]?=some (.cells cells q (0,0)),
  fun k=>(W.heap.size≤k∧k<W'.heap.size)∧∃ q,q∈60 :: k60.E∧∃ cells,W'.heap[k]?=some (.cells cells q (0,0)),
  fun k=>(W.heap.size≤k∧k<W'.heap.size)∧∃ q,q∈86 :: k86.E∧∃ cells,W'.heap[k]?=some (.cells cells q (0,0)),
  s _ _ (by decide),s _ _ (by decide),s _ _ (by decide),d _ _ (by decide),d _ _ (by decide),d _ _ (by decide),Kd.R_lower (Kd.R_mono (Kd.R_bound h0) (fun k hk=>⟨⟨hk.2.1,hk.2.2.1⟩,hk.2.2.2⟩)) hB,Kd.S_lower (Kd.S_mono (Kd.S_bound h1) (fun k hk=>⟨⟨hk.2.1,hk.2.2.1⟩,hk.2.2.2⟩)) hB,Kd.R_lower (Kd.R_mono (Kd.R_bound h2) (fun k hk=>⟨⟨hk.2.1,hk.2.2.1⟩,hk.2.2.2⟩)) hB⟩,
  Kd.S_lower (Kd.S_mono (Kd.S_bound h3) (fun k hk=>⟨⟨hk.2.1,hk.2.2.1⟩,hk.2.2.2⟩)) hB⟩
theorem rng_R {α:Type} {d:Kd α} {e B:Nat} {W W':World} {v:Value} {xs:List α} (hB:B≤W.heap.size) (h:d.R e W' W.heap.size (fun _=>True) v xs):d.R e W' B (fun k=>W.heap.size≤k∧k<W'.heap.size) v xs:=Kd.R_lower (Kd.R_mono (Kd.R_bound h) (fun k hk=>⟨hk.2.1,hk.2.2.1⟩)) hB
theorem CardS.reads {B:Nat} {W:World} {U:Nat→Prop} {v0 v1 v2:Value} {o:List Bool} {m:List S60} {t:List S86} (h:CardS B W U v0 v1 v2 o m t) :
  ∃ A0 c0 A1 c1 A2 c2,v0=.slice A0 o.length c0∧v1=.slice A1 m.length c1∧v2=.slice A2 t.length c2∧o.length≤c0∧m.length≤c1∧t.length≤c2∧Kd.C Kd.bool W A0 o.length o∧Kd.C k60 W A1 m.length m∧Kd.C k86 W A2 t.length t:=by
 obtain ⟨_,_,_,_,_,_,_,_,_,h0,h1,h2⟩:=h;obtain ⟨A0,c0,e0,l0,r0⟩:=Kd.R_reads h0;obtain ⟨A1,c1,e1,l1,r1⟩:=Kd.S_reads h1;obtain ⟨A2,c2,e2,l2,r2⟩:=Kd.R_reads h2;exact ⟨A0,c0,A1,c1,A2,c2,e0,e1,e2,l0,l1,l2,r0,r1,r2⟩
def Y74.f (k:Nat) (o:List Bool) (m:List S60) (t:List S86) (a1:Int):Option (Int × List Bool × List S60 × List S86) :=
 (Y46.f k o a1).bind fun b1=>((Y44.f k m b1.1).bind fun b2=>((Y45.f k t b2.1).bind fun b3=>(some (b3.1,b1.2,b2.2,b3.2))))
set_option maxHeartbeats 60000000 in
set_option maxRecDepth 100000 in
theorem Y74.calls (k:Nat) {U:Nat→Prop} {v0 v1 v2:Value} (o:List Bool) (m:List S60) (t:List S86) (a1 r1:Int) (o2:List Bool) (m2:List S60) (t2:List S86) (w0 w:World) (hB:Below w0.heap.size w0 w) (hC:CardS w0.heap.size w U v0 v1 v2 o m t) (hU:∀ k_,U k_→k_<w.heap.size) (h:Y74.f k o m t a1=some (r1,o2,m2,t2)) :
  Calls Try.prog 13 #[.agg #[v0,v1,v2],.int .i64 a1] w fun e_ w'=>e_=.returned (.int .i64 r1)∧CardS w0.heap.size w' U v0 v1 v2 o2 m2 t2∧Below w0.heap.size w0 w'∧Kept w w' U:=by
 obtain ⟨⟨t1,o3⟩,Z1,h⟩:=Option.bind_eq_some_iff.mp h;obtain ⟨⟨t2_,m3⟩,Z2,h⟩:=Option.bind_eq_some_iff.mp h;obtain ⟨⟨t3,h3⟩,Z3,h⟩:=Option.bind_eq_some_iff.mp h;obtain ⟨rfl,rfl,rfl,rfl⟩:t3=r1∧o3=o2∧m3=m2∧h3=t2:=by simpa using h
 clear h;have A1:=aM Z1;have A2:=aM Z2;have A3:=aM Z3;obtain ⟨P0,P1,P2,a0,a1_,a2,d01,d02,d12,q0,q1,q2⟩:=hC;obtain ⟨X0,c0,rfl⟩:∃ A c,v0=.slice A o.length c:=Kd.R_slice q0;obtain ⟨X1,c1,rfl⟩:∃ A c,v1=.slice A m.length c:=Kd.S_slice q1;obtain ⟨X2,c2,rfl⟩:∃ A c,v2=.slice A t.length c:=Kd.R_slice q2;have Q0:=aM q0;have Q1:=aM q1;have Q2:=aM q2;have HB:=aM hB;have HK:=aM (Kept.refl w U);have HE:=aM hU;have D:=aM (And.intro a0 (And.intro a1_ (And.intro a2 (And.intro d01 (And.intro d02 d12)))));clear q0 q1 q2 hB a0 a1_ a2 d01 d02 d12 Z1 Z2 Z3 hU;have hu43:=Try.underlying35;go_enter Try.func13,Try.ntmps13
 go_wp2_with (first|((with_reducible refine gate_dst (N:=2) rfl ?_);refine box_event ?hg (N:=2) ?hd (cs:=#[.slice X0 o.length c0,.slice X1 m.length c1,.slice X2 t.length c2]) (t:=35) ?hr ?_;(case hd=>rfl);(case hg=>rfl);(case hr=>first|(go_simp;done)|(go_simp;rfl));intro g hg w1 hbox hb;have BK:=aM hbox;have HG:=aM (show ¬ U g from fun h_=>by have:=HE.out g h_;rw [hg] at this;omega);replace Q0:=aM (kB Q0.out hb);replace Q1:=aM (Kd.S_below Q1.out hb);replace Q2:=aM (kB Q2.out hb);replace HB:=aM (bS HB.out hb);replace HK:=aM (Kept.below HK.out hb);clear hb hbox hg;have z0:w1.cell? ⟨g,0,none⟩=some (.slice X0 o.length c0):=cI BK.out 0;have z1:w1.cell? ⟨g,1,none⟩=some (.slice X1 m.length c1):=cI BK.out 1;have z2:w1.cell? ⟨g,2,none⟩=some (.slice X2 t.length c2):=cI BK.out 2)|((with_reducible refine gate_callee (f:=45) rfl ?_);refine goesL_ (some 8) rfl rfl Try.func45 (by kernel_rfl) rfl #[.slice X0 o.length c0,.int .i64 a1] rfl (by (try simp only [List.map_toArray,List.map_cons,List.map_nil]);first|done|rfl) ?_;(with_reducible refine (Y46.calls k P0 (.slice X0 o.length c0) o a1 t1 o3 w0 _ HB.out Q0.out A1.out).mono ?_);rintro e_ w3 ⟨rfl,hy,hb,hk⟩;refine ⟨_,rfl,?_⟩;replace Q0:=aM (Kd.R_reok rfl hy (fun k_ h_=>Q0.out.1 k_ h_));replace Q1:=aM (Kd.S_step Q1.out (fun k_ h_ hlt=>hk.2 k_ hlt (fun h2=>D.out.2.2.2.1 k_ h2 h_)));replace Q2:=aM (Kd.R_step Q2.out (fun k_ h_ hlt=>hk.2 k_ hlt (fun h2=>D.out.2.2.2.2.1 k_ h2 h_)));replace HB:=aM hb;replace HK:=aM (Kept.then_ HK.out hk (fun k_ h_=>.inl (D.out.1 k_ h_)));replace BK:=aM (blk_kept BK.out hk (fun h_=>HG.out (D.out.1 g h_)));clear hb hk hy;have z1:w3.cell? ⟨g,1,none⟩=some (.slice X1 m.length c1):=cI BK.out 1;have z2:w3.cell? ⟨g,2,none⟩=some (.slice X2 t.length c2):=cI BK.out 2)|((with_reducible refine gate_callee (f:=46) rfl ?_);refine goesL_ (some 12) rfl rfl Try.func46 (by kernel_rfl) rfl #[.slice X1 m.length c1,.int .i64 t1] rfl (by (try simp only [List.map_toArray,List.map_cons,List.map_nil]);first|done|rfl) ?_;(with_reducible refine (Y44.calls k P1 (.slice X1 m.length c1) m t1 t2_ m3 w0 _ HB.out Q1.out A2.out).mono ?_);rintro e_ w4 ⟨rfl,hy,hb,hk⟩;refine ⟨_,rfl,?_⟩;replace Q1:=aM hy;replace Q0:=aM (Kd.R_step Q0.out (fun k_ h_ hlt=>hk.2 k_ hlt (fun h2=>D.out.2.2.2.1 k_ h_ h2)));replace Q2:=aM (Kd.R_step Q2.out (fun k_ h_ hlt=>hk.2 k_ hlt (fun h2=>D.out.2.2.2.2.2 k_ h2 h_)));replace HB:=aM hb;replace HK:=aM (Kept.then_ HK.out hk (fun k_ h_=>.inl (D.out.2.1 k_ h_)));replace BK:=aM (blk_kept BK.out hk (fun h_=>HG.out (D.out.2.1 g h_)));clear hb hk hy;have z2:w4.cell? ⟨g,2,none⟩=some (.slice X2 t.length c2):=cI BK.out 2)|((with_reducible refine gate_callee (f:=47) rfl ?_);refine goesL_ (some 16) rfl rfl Try.func47 (by kernel_rfl) rfl #[.slice X2 t.length c2,.int .i64 t2_] rfl (by (try simp only [List.map_toArray,List.map_cons,List.map_nil]);first|done|rfl) ?_;(with_reducible refine (Y45.calls k P2 (.slice X2 t.length c2) t t2_ t3 h3 w0 _ HB.out Q2.out A3.out).mono ?_);rintro e_ w5 ⟨rfl,hy,hb,hk⟩;refine ⟨_,rfl,?_⟩;replace Q2:=aM (Kd.R_reok rfl hy (fun k_ h_=>Q2.out.1 k_ h_));replace Q0:=aM (Kd.R_step Q0.out (fun k_ h_ hlt=>hk.2 k_ hlt (fun h2=>D.out.2.2.2.2.1 k_ h_ h2)));replace Q1:=aM (Kd.S_step Q1.out (fun k_ h_ hlt=>hk.2 k_ hlt (fun h2=>D.out.2.2.2.2.2 k_ h_ h2)));replace HB:=aM hb;replace HK:=aM (Kept.then_ HK.out hk (fun k_ h_=>.inl (D.out.2.2.1 k_ h_)));clear hb hk hy))
 go_ret
 exact ⟨rfl,⟨P0,P1,P2,D.out.1,D.out.2.1,D.out.2.2.1,D.out.2.2.2.1,D.out.2.2.2.2.1,D.out.2.2.2.2.2,Q0.out,Q1.out,Q2.out⟩,HB.out,HK.out⟩

/-- One frame's own row, lent to what writes it, and the row back behind that. -/
theorem out1_lend {W:World} {base g n cap:Nat} {ok:Nat→Prop} {xs:List S65} {i:Int} {A:Option Addr} {c:Nat}
  (h:Kd.S k65 65 W base ok (.slice (some ⟨g,0,none⟩) n cap) xs) (h0:0≤i) (h1:i<n) (hc:W.cell? ⟨g,i.toNat*5+4,none⟩=some (.slice A ((rd_T65 xs i).f1.f3).length c)) :
  ∃ oki:Nat→Prop,(∀ k,oki k→ok k)∧Kd.R (Kd.int .u8) 5 W base oki (.slice A ((rd_T65 xs i).f1.f3).length c) (rd_T65 xs i).f1.f3 ∧
   ∀ {w1:World} {ys:List Int},Kept W w1 oki→Kd.R (Kd.int .u8) 5 w1 base (fun k=>oki k∨W.heap.size≤k) (.slice A ((rd_T65 xs i).f1.f3).length c) ys →
    Kd.S k65 65 w1 base ok (.slice (some ⟨g,0,none⟩) n cap) (xs.set i.toNat (⟨(rd_T65 xs i).f0,(⟨(rd_T65 xs i).f1.f0,(rd_T65 xs i).f1.f1,(rd_T65 xs i).f1.f2,ys⟩:S40)⟩:S65)):=by
 obtain ⟨oki,cs,hcl,hM,hcc,hoki,hH⟩:=Kd.S_lend h z65 i h0 h1;obtain ⟨v1,rfl,ge⟩:=k65_openM hM;have hv2:W.cell? ⟨g,i.toNat*5+4,none⟩=some v1:=hcc 4 _ rfl;obtain rfl:v1=.slice A ((rd_T65 xs i).f1.f3).length c:=Option.some.inj (hv2.symm.trans hc);refine ⟨oki,fun k hk=>(hoki k hk).1,ge,fun {w1 ys} hK hy=>?_⟩
 have hH':=Kd.H_step hH (fun k _ hn hlt=>hK.2 k hlt hn)
 exact Kd.H_back hH' (k65_mkM _ _ _ (⟨(rd_T65 xs i).f0,(⟨(rd_T65 xs i).f1.f0,(rd_T65 xs i).f1.f1,(rd_T65 xs i).f1.f2,ys⟩:S40)⟩:S65) (Kd.R_reok rfl hy (fun k e=>ge.1 k e))) (fun _ hk=>hk)
def Y28.l0:Nat→List (S65)→Int→Int→Option (Int × (List (S65)))
 | 0,_,_,_=>none
 | k+1,x0,x1,x5=>if x5<(x0.length:Int) then (if 0≤x5 then ((some (x0.set (x5:Int).toNat (⟨x1,(⟨(rd_T65 x0 x5).f1.f0,(rd_T65 x0 x5).f1.f1,(rd_T65 x0 x5).f1.f2,(rd_T65 x0 x5).f1.f3⟩:S40)⟩:S65):List (S65))).bind fun y603=>((some (y603.set (x5:Int).toNat (⟨(rd_T65 y603 x5).f0,(⟨wrap64 (x1+1),(rd_T65 y603 x5).f1.f1,(rd_T65 y603 x5).f1.f2,(rd_T65 y603 x5).f1.f3⟩:S40)⟩:S65):List (S65))).bind fun y604=>((some (y604.set (x5:Int).toNat (⟨(rd_T65 y604 x5).f0,(⟨(rd_T65 y604 x5).f1.f0,wrap64 ((wrap64 (x1+1))+1),(rd_T65 y604 x5).f1.f2,(rd_T65 y604 x5).f1.f3⟩:S40)⟩:S65):List (S65))).bind fun y605=>((some (y605.set (x5:Int).toNat (⟨(rd_T65 y605 x5).f0,(⟨(rd_T65 y605 x5).f1.f0,(rd_T65 y605 x5).f1.f1,wrap64 ((wrap64 ((wrap64 (x1+1))+1))+1),(rd_T65 y605 x5).f1.f3⟩:S40)⟩:S65):List (S65))).bind fun y606=>((Y18.f k ((rd_T65 y606 x5).f1.f3) (wrap64 ((wrap64 ((wrap64 ((wrap64 (x1+1))+1))+1))+1))).bind fun bt608=>(Y28.l0 k (y606.set (x5:Int).toNat (⟨(rd_T65 y606 x5).f0,(⟨(rd_T65 y606 x5).f1.f0,(rd_T65 y606 x5).f1.f1,(rd_T65 y606 x5).f1.f2,bt608.2⟩:S40)⟩:S65)) bt608.1 (wrap64 (x5+1)))))))) else (none)) else (some (x1,x0))
def Y28.f (k:Nat) (l0:List (S65)) (a1:Int):Option (Int × (List (S65))):=Y28.l0 k l0 a1 0
theorem Y28.mono_l:∀ k,(∀ y0 y1 y2,LeO (Y28.l0 k y0 y1 y2) (Y28.l0 (k+1) y0 y1 y2))
 | 0=>fun _ _ _ r h=>by simp [Y28.l0] at h
 | k+1=>by
  have ih0:=Y28.mono_l k
  ·intro y0 y1 y2
   unfold Y28.l0
   repeat' first
   | (with_reducible exact ih0 _ _ _)
   | (with_reducible exact Y18.mono _ _ _)
   | (with_reducible exact LeO.refl _)
   | (with_reducible exact LeO.none _)
   | (with_reducible refine LeO.ite ?_ ?_)
   | (with_reducible refine LeO.bind ?_ (fun _=>?_))
   | exact ih0 _ _ _
   | exact LeO.none _
   | refine LeO.ite ?_ ?_
   | refine LeO.bind ?_ (fun _=>?_)
theorem Y28.mono:∀ a0 a1 k,LeO (Y28.f k a0 a1) (Y28.f (k+1) a0 a1):=by
 intro a0 a1 k;have ih0:=Y28.mono_l k;unfold Y28.f
 repeat' first
   | (with_reducible exact ih0 _ _ _)
   | (with_reducible exact LeO.refl _)
   | (with_reducible exact LeO.none _)
   | (with_reducible refine LeO.ite ?_ ?_)
   | (with_reducible refine LeO.bind ?_ (fun _=>?_))
   | exact ih0 _ _ _
   | exact LeO.none _
   | refine LeO.ite ?_ ?_
   | refine LeO.bind ?_ (fun _=>?_)
set_option maxHeartbeats 60000000 in
set_option maxRecDepth 100000 in
theorem Y28.calls (k:Nat) (P0_:Nat→Prop) (u9000_:Value) (l0:List (S65)) (a1:Int) (r1:Int) (r2:List (S65)) (w0 w:World) (hB:Below w0.heap.size w0 w) (ho0:Kd.S k65 65 w w0.heap.size P0_ u9000_ l0) (h:Y28.f k l0 a1=some (r1,r2)) :
  Calls Try.prog 15 #[u9000_,.int .i64 a1] w fun e w'=>e=.returned (.int .i64 r1)∧Kd.S k65 65 w' w0.heap.size (fun k_=>P0_ k_) u9000_ r2∧Below w0.heap.size w0 w'∧Kept w w' (fun k_=>P0_ k_):=by
 have HO0:=aM (show Kd.S k65 65 w w0.heap.size (fun k_=>P0_ k_) u9000_ l0 from ho0)
 have HK:=aM (Kept.refl w (fun k_=>P0_ k_))
 have HW0:=aM hB.size;have HB:=aM hB;clear hB;have H:(Y28.l0 k l0 a1 0)=some (r1,r2):=h;clear h;have H':=aM H;clear H;go_enter Try.func15,Try.ntmps15
 go_wp2
 go_loopg [1,5] k (fun kq v1 v5 w'=>∃ (x0_1:List (S65)) (x1_1:Int) (x5_1:Int),v1=.int .i64 x1_1∧v5=.int .i64 x5_1∧Aside0 (Y28.l0 kq x0_1 x1_1 x5_1=some (r1,r2))∧Aside0 (kq≤k)∧Aside0 (Kd.S k65 65 w' w0.heap.size (fun k_=>P0_ k_) u9000_ x0_1)∧Aside0 (Kept w w' (fun k_=>P0_ k_))∧Aside0 (Below w0.heap.size w0 w'))
 case atStart=>exact ⟨(l0),(a1),(0),xE,xE,H',⟨Nat.le_refl _⟩,⟨ks HO0.out⟩,⟨by repeat (first|(with_reducible first|exact HK.out|apply Kept.alloc|apply Kept.drewN|apply Kept.drew)|exact HK.out)⟩,⟨bl HB.out⟩⟩
 case round =>
  clear H'
  try clear c1
  try clear p2
  obtain ⟨x0_1,x1_1,x5_1,rfl,rfl,HA,HK1,HO_0,HK,HB⟩:=hrel;cases gk with
  | zero=>exact absurd HA.out (by simp [Y28.l0])
  | succ k1 =>
   have H:=HA.out;clear HA;simp only [Y28.l0] at H
   by_cases c3:x5_1<(x0_1.length:Int)
   case neg =>
    rw [if_neg c3] at H
    have c3b0:decide (x5_1<(x0_1.length:Int))=false:=decide_eq_false c3;clear c3;simp only [Option.some.injEq,Prod.mk.injEq] at H;obtain ⟨rfl,rfl⟩:=H;obtain ⟨Ao19,co19,eo19⟩:=Kd.S_slice HO_0.out;subst eo19;go_wp2
    go_ret
    exact ⟨xW,ks HO_0.out,bl HB.out,by repeat (first|(with_reducible first|exact HK.out|apply Kept.alloc|apply Kept.drewN|apply Kept.drew)|exact HK.out)⟩
   rw [if_pos c3] at H
   have c3b0:decide (x5_1<(x0_1.length:Int))=true:=decide_eq_true c3;clear c3
   by_cases c4:0≤x5_1
   case neg =>
    rw [if_neg c4] at H
    exact absurd H (by simp)
   rw [if_pos c4] at H
   have c4b0:decide (0≤x5_1)=true:=decide_eq_true c4;clear c4;obtain ⟨y603,hy603⟩:∃ y_:List (S65),y_=(x0_1.set (x5_1:Int).toNat (⟨x1_1,(⟨(rd_T65 x0_1 x5_1).f1.f0,(rd_T65 x0_1 x5_1).f1.f1,(rd_T65 x0_1 x5_1).f1.f2,(rd_T65 x0_1 x5_1).f1.f3⟩:S40)⟩:S65)):=⟨_,rfl⟩;replace H:((some (y603.set (x5_1:Int).toNat (⟨(rd_T65 y603 x5_1).f0,(⟨wrap64 (x1_1+1),(rd_T65 y603 x5_1).f1.f1,(rd_T65 y603 x5_1).f1.f2,(rd_T65 y603 x5_1).f1.f3⟩:S40)⟩:S65):List (S65))).bind fun y604=>((some (y604.set (x5_1:Int).toNat (⟨(rd_T65 y604 x5_1).f0,(⟨(rd_T65 y604 x5_1).f1.f0,wrap64 ((wrap64 (x1_1+1))+1),(rd_T65 y604 x5_1).f1.f2,(rd_T65 y604 x5_1).f1.f3⟩:S40)⟩:S65):List (S65))).bind fun y605=>((some (y605.set (x5_1:Int).toNat (⟨(rd_T65 y605 x5_1).f0,(⟨(rd_T65 y605 x5_1).f1.f0,(rd_T65 y605 x5_1).f1.f1,wrap64 ((wrap64 ((wrap64 (x1_1+1))+1))+1),(rd_T65 y605 x5_1).f1.f3⟩:S40)⟩:S65):List (S65))).bind fun y606=>((Y18.f k1 ((rd_T65 y606 x5_1).f1.f3) (wrap64 ((wrap64 ((wrap64 ((wrap64 (x1_1+1))+1))+1))+1))).bind fun bt608=>(Y28.l0 k1 (y606.set (x5_1:Int).toNat (⟨(rd_T65 y606 x5_1).f0,(⟨(rd_T65 y606 x5_1).f1.f0,(rd_T65 y606 x5_1).f1.f1,(rd_T65 y606 x5_1).f1.f2,bt608.2⟩:S40)⟩:S65)) bt608.1 (wrap64 (x5_1+1)))))))=some (r1,r2):=by first|(rw [hy603];with_reducible exact H)|(have H2_:=(Option.bind_some _ _).symm.trans H;rw [hy603];with_reducible exact H2_)|(have H2_:=(Option.bind_some _ _).symm.trans H;with_reducible exact H2_)|with_reducible exact H|(rw [hy603];exact H)|exact H
   have Ny603:=aM hy603;clear hy603;obtain ⟨y604,hy604⟩:∃ y_:List (S65),y_=(y603.set (x5_1:Int).toNat (⟨(rd_T65 y603 x5_1).f0,(⟨wrap64 (x1_1+1),(rd_T65 y603 x5_1).f1.f1,(rd_T65 y603 x5_1).f1.f2,(rd_T65 y603 x5_1).f1.f3⟩:S40)⟩:S65)):=⟨_,rfl⟩;replace H:((some (y604.set (x5_1:Int).toNat (⟨(rd_T65 y604 x5_1).f0,(⟨(rd_T65 y604 x5_1).f1.f0,wrap64 ((wrap64 (x1_1+1))+1),(rd_T65 y604 x5_1).f1.f2,(rd_T65 y604 x5_1).f1.f3⟩:S40)⟩:S65):List (S65))).bind fun y605=>((some (y605.set (x5_1:Int).toNat (⟨(rd_T65 y605 x5_1).f0,(⟨(rd_T65 y605 x5_1).f1.f0,(rd_T65 y605 x5_1).f1.f1,wrap64 ((wrap64 ((wrap64 (x1_1+1))+1))+1),(rd_T65 y605 x5_1).f1.f3⟩:S40)⟩:S65):List (S65))).bind fun y606=>((Y18.f k1 ((rd_T65 y606 x5_1).f1.f3) (wrap64 ((wrap64 ((wrap64 ((wrap64 (x1_1+1))+1))+1))+1))).bind fun bt608=>(Y28.l0 k1 (y606.set (x5_1:Int).toNat (⟨(rd_T65 y606 x5_1).f0,(⟨(rd_T65 y606 x5_1).f1.f0,(rd_T65 y606 x5_1).f1.f1,(rd_T65 y606 x5_1).f1.f2,bt608.2⟩:S40)⟩:S65)) bt608.1 (wrap64 (x5_1+1))))))=some (r1,r2):=by first|(rw [hy604];with_reducible exact H)|(have H2_:=(Option.bind_some _ _).symm.trans H;rw [hy604];with_reducible exact H2_)|(have H2_:=(Option.bind_some _ _).symm.trans H;with_reducible exact H2_)|with_reducible exact H|(rw [hy604];exact H)|exact H
   have Ny604:=aM hy604;clear hy604;obtain ⟨y605,hy605⟩:∃ y_:List (S65),y_=(y604.set (x5_1:Int).toNat (⟨(rd_T65 y604 x5_1).f0,(⟨(rd_T65 y604 x5_1).f1.f0,wrap64 ((wrap64 (x1_1+1))+1),(rd_T65 y604 x5_1).f1.f2,(rd_T65 y604 x5_1).f1.f3⟩:S40)⟩:S65)):=⟨_,rfl⟩;replace H:((some (y605.set (x5_1:Int).toNat (⟨(rd_T65 y605 x5_1).f0,(⟨(rd_T65 y605 x5_1).f1.f0,(rd_T65 y605 x5_1).f1.f1,wrap64 ((wrap64 ((wrap64 (x1_1+1))+1))+1),(rd_T65 y605 x5_1).f1.f3⟩:S40)⟩:S65):List (S65))).bind fun y606=>((Y18.f k1 ((rd_T65 y606 x5_1).f1.f3) (wrap64 ((wrap64 ((wrap64 ((wrap64 (x1_1+1))+1))+1))+1))).bind fun bt608=>(Y28.l0 k1 (y606.set (x5_1:Int).toNat (⟨(rd_T65 y606 x5_1).f0,(⟨(rd_T65 y606 x5_1).f1.f0,(rd_T65 y606 x5_1).f1.f1,(rd_T65 y606 x5_1).f1.f2,bt608.2⟩:S40)⟩:S65)) bt608.1 (wrap64 (x5_1+1)))))=some (r1,r2):=by first|(rw [hy605];with_reducible exact H)|(have H2_:=(Option.bind_some _ _).symm.trans H;rw [hy605];with_reducible exact H2_)|(have H2_:=(Option.bind_some _ _).symm.trans H;with_reducible exact H2_)|with_reducible exact H|(rw [hy605];exact H)|exact H
   have Ny605:=aM hy605;clear hy605;obtain ⟨y606,hy606⟩:∃ y_:List (S65),y_=(y605.set (x5_1:Int).toNat (⟨(rd_T65 y605 x5_1).f0,(⟨(rd_T65 y605 x5_1).f1.f0,(rd_T65 y605 x5_1).f1.f1,wrap64 ((wrap64 ((wrap64 (x1_1+1))+1))+1),(rd_T65 y605 x5_1).f1.f3⟩:S40)⟩:S65)):=⟨_,rfl⟩;replace H:((Y18.f k1 ((rd_T65 y606 x5_1).f1.f3) (wrap64 ((wrap64 ((wrap64 ((wrap64 (x1_1+1))+1))+1))+1))).bind fun bt608=>(Y28.l0 k1 (y606.set (x5_1:Int).toNat (⟨(rd_T65 y606 x5_1).f0,(⟨(rd_T65 y606 x5_1).f1.f0,(rd_T65 y606 x5_1).f1.f1,(rd_T65 y606 x5_1).f1.f2,bt608.2⟩:S40)⟩:S65)) bt608.1 (wrap64 (x5_1+1))))=some (r1,r2):=by first|(rw [hy606];with_reducible exact H)|(have H2_:=(Option.bind_some _ _).symm.trans H;rw [hy606];with_reducible exact H2_)|(have H2_:=(Option.bind_some _ _).symm.trans H;with_reducible exact H2_)|with_reducible exact H|(rw [hy606];exact H)|exact H
   have Ny606:=aM hy606;clear hy606;replace H:=Option.bind_eq_some_iff.mp H;obtain ⟨⟨t608,t608r⟩,A90,H⟩:=H;replace H:(Y28.l0 k1 (y606.set (x5_1:Int).toNat (⟨(rd_T65 y606 x5_1).f0,(⟨(rd_T65 y606 x5_1).f1.f0,(rd_T65 y606 x5_1).f1.f1,(rd_T65 y606 x5_1).f1.f2,t608r⟩:S40)⟩:S65)) t608 (wrap64 (x5_1+1)))=some (r1,r2):=H;have A9:=aM A90;clear A90;have H':=aM H;clear H;obtain ⟨Ao10,co10,eo10⟩:=Kd.S_slice HO_0.out;subst eo10;have p5:0≤(x5_1:Int):=of_decide_eq_true (by first|(with_reducible assumption)|assumption)
   have q5:(x5_1:Int)<((x0_1.length:Int):Int):=of_decide_eq_true (by first|(with_reducible assumption)|assumption)
   obtain ⟨go5,co5,eo5,gb5,gl5,cl5,HG5⟩:=Kd.S_form HO_0.out (by omega)
   (first|cases eo5|(injection eo5 with ea_ en_ ec_;(first|subst ea_|(injection ea_ with ea_;subst ea_));subst ec_;clear en_))
   have GB5:=aM gb5;have GG5:=aM HG5;clear gb5 gl5 HG5;obtain ⟨_,ce5,hcl5,hM5,hcc5,hfr5,_,_⟩:=Kd.S_elem HO_0.out z65 (x5_1:Int) p5 q5;obtain ⟨ve5_4,rfl,ge5_4⟩:=k65_openM hM5;have hx5_0:wr.cell? ⟨go5,(x5_1:Int).toNat*5,none⟩=some (.int .i64 ((rd_T65 x0_1 x5_1).f0)):=hcc5 0 _ rfl;have hx5_1:wr.cell? ⟨go5,(x5_1:Int).toNat*5+1,none⟩=some (.int .i64 ((rd_T65 x0_1 x5_1).f1.f0)):=hcc5 1 _ rfl;have hx5_2:wr.cell? ⟨go5,(x5_1:Int).toNat*5+2,none⟩=some (.int .i64 ((rd_T65 x0_1 x5_1).f1.f1)):=hcc5 2 _ rfl;have hx5_3:wr.cell? ⟨go5,(x5_1:Int).toNat*5+3,none⟩=some (.int .i64 ((rd_T65 x0_1 x5_1).f1.f2)):=hcc5 3 _ rfl;have hx5_4:wr.cell? ⟨go5,(x5_1:Int).toNat*5+4,none⟩=some (ve5_4):=hcc5 4 _ rfl;have hf5_0:wr.frozen? ⟨go5,(x5_1:Int).toNat*5,none⟩=false:=hfr5 0;have hf5_1:wr.frozen? ⟨go5,(x5_1:Int).toNat*5+1,none⟩=false:=hfr5 1;have hf5_2:wr.frozen? ⟨go5,(x5_1:Int).toNat*5+2,none⟩=false:=hfr5 2;have hf5_3:wr.frozen? ⟨go5,(x5_1:Int).toNat*5+3,none⟩=false:=hfr5 3;have hf5_4:wr.frozen? ⟨go5,(x5_1:Int).toNat*5+4,none⟩=false:=hfr5 4;clear hcl5 hcc5 hfr5 hM5;replace p5:=eq_true p5;replace q5:=eq_true q5;have HX11:=aM (show Kd.S k65 65 wr w0.heap.size (fun k_=>((fun k_=>P0_ k_)) k_∧¬ ((fun _=>False)) k_) (.slice (some ⟨go5,0,none⟩) x0_1.length co10) x0_1 from (ks (Kd.S_mono HO_0.out (fun k_ hk=>⟨hk,fun e_=>e_⟩))))
   obtain ⟨oki11,ce11,hcl11,hM11,hcc11,hfr11,hoki11,hH11⟩:=Kd.S_elem HX11.out z65 (x5_1:Int) (of_decide_eq_true (by first|(with_reducible assumption)|assumption)) (by have h_:(x5_1:Int)<((x0_1.length:Int):Int):=of_decide_eq_true (by first|(with_reducible assumption)|assumption);first|exact h_|(have e_:=(Kd.S_reads' HO_0.out).1;omega)|simpa using h_)
   obtain ⟨ve11_4,rfl,ge11_4⟩:=k65_openM hM11;have HP11:=Kd.S_seg hH11 (of_decide_eq_true (by first|(with_reducible assumption)|assumption)) (by have h_:(x5_1:Int)<((x0_1.length:Int):Int):=of_decide_eq_true (by first|(with_reducible assumption)|assumption);first|exact h_|(have e_:=(Kd.S_reads' HO_0.out).1;omega)|simpa using h_) (seg:=[.int .i64 x1_1]) (j:=0) (show 1≤5 from by decide) (x':=(⟨x1_1,(⟨(rd_T65 x0_1 x5_1).f1.f0,(rd_T65 x0_1 x5_1).f1.f1,(rd_T65 x0_1 x5_1).f1.f2,(rd_T65 x0_1 x5_1).f1.f3⟩:S40)⟩:S65)) (k65_mkM _ _ _ (⟨x1_1,(⟨(rd_T65 x0_1 x5_1).f1.f0,(rd_T65 x0_1 x5_1).f1.f1,(rd_T65 x0_1 x5_1).f1.f2,(rd_T65 x0_1 x5_1).f1.f3⟩:S40)⟩:S65) (Kd.R_mono ge11_4 (fun _ h_=>Or.inl h_))) (fun _ hk=>hk) (fun k_ hk_=>hk_.elim)
   have hx11_0:=hcc11 0 _ rfl
   (try simp only [show (k65).sz=5 from rfl,Nat.mul_one,Nat.add_zero] at hx11_0)
   have hf11_0:=hfr11 0
   (try simp only [show (k65).sz=5 from rfl,Nat.mul_one,Nat.add_zero] at hf11_0)
   clear hcl11 hcc11 hfr11 hM11 hoki11 hH11;go_wp2_with (first|((with_reducible refine gate_store (t:=3) (p:=16) rfl ?_);refine store_event (t:=3) (p:=16) (v:=?vo_w12) (w1:=(wr.setCell ⟨go5,(x5_1:Int).toNat*5,none⟩ (.int .i64 x1_1))) ?hg ?ho ?hn ?hr ?_;(case ho=>rfl);(case hg=>rfl);(case hn=>rfl);(case hr=>first|(go_simp;done)|(go_simp;rfl)|(obtain ⟨A_,c_,e_⟩:=Kd.R_slice HO_0.out;subst e_;(first|(go_simp;done)|(go_simp;rfl)))|(obtain ⟨A_,c_,e_⟩:=Kd.S_slice HO_0.out;subst e_;(first|(go_simp;done)|(go_simp;rfl))));intro w12 hw;have hg:wr.grownBy w12 (some go5):=(by rw [hw];exact HP11.2);have hp_:Kd.S k65 65 w12 w0.heap.size (fun k_=>P0_ k_) (.slice (some ⟨go5,0,none⟩) x0_1.length co10) y603:=(by rw [hw,Ny603.out];exact HP11.1);clear HP11;have n0_:=aM (hp_);have n1_:=aM ((by rw [hw];exact below_set (HB.out) GB5.out:Below w0.heap.size w0 w12));have n2_:=aM (Kept.of_grown (S:=(fun k_=>P0_ k_)) hg (by repeat (first|(with_reducible first|exact HK.out|apply Kept.alloc|apply Kept.drewN|apply Kept.drew)|exact HK.out)) (fun k_ e_=>.inl ((Kd.S_R HO_0.out).1 k_ e_)));clear HO_0 HB HK;have HO_0:=n0_;have HB:=n1_;have HK:=n2_;clear n0_ n1_ n2_;clear hg hw hp_;have p6:0≤(x5_1:Int):=of_decide_eq_true (by first|(with_reducible assumption)|assumption);have q6:(x5_1:Int)<((x0_1.length:Int):Int):=of_decide_eq_true (by first|(with_reducible assumption)|assumption);obtain ⟨_,ce6,hcl6,hM6,hcc6,hfr6,_,_⟩:=Kd.S_elem HO_0.out z65 (x5_1:Int) p6 q6;obtain ⟨ve6_4,rfl,ge6_4⟩:=k65_openM hM6;have hx6_0:w12.cell? ⟨go5,(x5_1:Int).toNat*5,none⟩=some (.int .i64 ((rd_T65 y603 x5_1).f0)):=hcc6 0 _ rfl;have hx6_1:w12.cell? ⟨go5,(x5_1:Int).toNat*5+1,none⟩=some (.int .i64 ((rd_T65 y603 x5_1).f1.f0)):=hcc6 1 _ rfl;have hx6_2:w12.cell? ⟨go5,(x5_1:Int).toNat*5+2,none⟩=some (.int .i64 ((rd_T65 y603 x5_1).f1.f1)):=hcc6 2 _ rfl;have hx6_3:w12.cell? ⟨go5,(x5_1:Int).toNat*5+3,none⟩=some (.int .i64 ((rd_T65 y603 x5_1).f1.f2)):=hcc6 3 _ rfl;have hx6_4:w12.cell? ⟨go5,(x5_1:Int).toNat*5+4,none⟩=some (ve6_4):=hcc6 4 _ rfl;have hf6_0:w12.frozen? ⟨go5,(x5_1:Int).toNat*5,none⟩=false:=hfr6 0;have hf6_1:w12.frozen? ⟨go5,(x5_1:Int).toNat*5+1,none⟩=false:=hfr6 1;have hf6_2:w12.frozen? ⟨go5,(x5_1:Int).toNat*5+2,none⟩=false:=hfr6 2;have hf6_3:w12.frozen? ⟨go5,(x5_1:Int).toNat*5+3,none⟩=false:=hfr6 3;have hf6_4:w12.frozen? ⟨go5,(x5_1:Int).toNat*5+4,none⟩=false:=hfr6 4;clear hcl6 hcc6 hfr6 hM6;replace p6:=eq_true p6;replace q6:=eq_true q6;have HX13:=aM (show Kd.S k65 65 w12 w0.heap.size (fun k_=>((fun k_=>P0_ k_)) k_∧¬ ((fun _=>False)) k_) (.slice (some ⟨go5,0,none⟩) x0_1.length co10) y603 from (ks (Kd.S_mono HO_0.out (fun k_ hk=>⟨hk,fun e_=>e_⟩))));obtain ⟨oki13,ce13,hcl13,hM13,hcc13,hfr13,hoki13,hH13⟩:=Kd.S_elem HX13.out z65 (x5_1:Int) (of_decide_eq_true (by first|(with_reducible assumption)|assumption)) (by have h_:(x5_1:Int)<((x0_1.length:Int):Int):=of_decide_eq_true (by first|(with_reducible assumption)|assumption);first|exact h_|(have e_:=(Kd.S_reads' HO_0.out).1;omega)|simpa using h_);obtain ⟨ve13_4,rfl,ge13_4⟩:=k65_openM hM13;have HP13:=Kd.S_seg hH13 (of_decide_eq_true (by first|(with_reducible assumption)|assumption)) (by have h_:(x5_1:Int)<((x0_1.length:Int):Int):=of_decide_eq_true (by first|(with_reducible assumption)|assumption);first|exact h_|(have e_:=(Kd.S_reads' HO_0.out).1;omega)|simpa using h_) (seg:=[.int .i64 (wrap64 (x1_1+1))]) (j:=1) (show 2≤5 from by decide) (x':=(⟨(rd_T65 y603 x5_1).f0,(⟨wrap64 (x1_1+1),(rd_T65 y603 x5_1).f1.f1,(rd_T65 y603 x5_1).f1.f2,(rd_T65 y603 x5_1).f1.f3⟩:S40)⟩:S65)) (k65_mkM _ _ _ (⟨(rd_T65 y603 x5_1).f0,(⟨wrap64 (x1_1+1),(rd_T65 y603 x5_1).f1.f1,(rd_T65 y603 x5_1).f1.f2,(rd_T65 y603 x5_1).f1.f3⟩:S40)⟩:S65) (Kd.R_mono ge13_4 (fun _ h_=>Or.inl h_))) (fun _ hk=>hk) (fun k_ hk_=>hk_.elim);have hx13_1:=hcc13 1 _ rfl;(try simp only [show (k65).sz=5 from rfl,Nat.mul_one,Nat.add_zero] at hx13_1);have hf13_1:=hfr13 1;(try simp only [show (k65).sz=5 from rfl,Nat.mul_one,Nat.add_zero] at hf13_1);clear hcl13 hcc13 hfr13 hM13 hoki13 hH13)|((with_reducible refine gate_store (t:=3) (p:=24) rfl ?_);refine store_event (t:=3) (p:=24) (v:=?vo_w14) (w1:=(w12.setCell ⟨go5,(x5_1:Int).toNat*5+1,none⟩ (.int .i64 (wrap64 (x1_1+1))))) ?hg ?ho ?hn ?hr ?_;(case ho=>rfl);(case hg=>rfl);(case hn=>rfl);(case hr=>first|(go_simp;done)|(go_simp;rfl)|(obtain ⟨A_,c_,e_⟩:=Kd.R_slice HO_0.out;subst e_;(first|(go_simp;done)|(go_simp;rfl)))|(obtain ⟨A_,c_,e_⟩:=Kd.S_slice HO_0.out;subst e_;(first|(go_simp;done)|(go_simp;rfl))));intro w14 hw;have hg:w12.grownBy w14 (some go5):=(by rw [hw];exact HP13.2);have hp_:Kd.S k65 65 w14 w0.heap.size (fun k_=>P0_ k_) (.slice (some ⟨go5,0,none⟩) x0_1.length co10) y604:=(by rw [hw,Ny604.out];exact HP13.1);clear HP13;have n0_:=aM (hp_);have n1_:=aM ((by rw [hw];exact below_set (HB.out) GB5.out:Below w0.heap.size w0 w14));have n2_:=aM (Kept.of_grown (S:=(fun k_=>P0_ k_)) hg (by repeat (first|(with_reducible first|exact HK.out|apply Kept.alloc|apply Kept.drewN|apply Kept.drew)|exact HK.out)) (fun k_ e_=>.inl ((Kd.S_R HO_0.out).1 k_ e_)));clear HO_0 HB HK;have HO_0:=n0_;have HB:=n1_;have HK:=n2_;clear n0_ n1_ n2_;clear hg hw hp_;have p7:0≤(x5_1:Int):=of_decide_eq_true (by first|(with_reducible assumption)|assumption);have q7:(x5_1:Int)<((x0_1.length:Int):Int):=of_decide_eq_true (by first|(with_reducible assumption)|assumption);obtain ⟨_,ce7,hcl7,hM7,hcc7,hfr7,_,_⟩:=Kd.S_elem HO_0.out z65 (x5_1:Int) p7 q7;obtain ⟨ve7_4,rfl,ge7_4⟩:=k65_openM hM7;have hx7_0:w14.cell? ⟨go5,(x5_1:Int).toNat*5,none⟩=some (.int .i64 ((rd_T65 y604 x5_1).f0)):=hcc7 0 _ rfl;have hx7_1:w14.cell? ⟨go5,(x5_1:Int).toNat*5+1,none⟩=some (.int .i64 ((rd_T65 y604 x5_1).f1.f0)):=hcc7 1 _ rfl;have hx7_2:w14.cell? ⟨go5,(x5_1:Int).toNat*5+2,none⟩=some (.int .i64 ((rd_T65 y604 x5_1).f1.f1)):=hcc7 2 _ rfl;have hx7_3:w14.cell? ⟨go5,(x5_1:Int).toNat*5+3,none⟩=some (.int .i64 ((rd_T65 y604 x5_1).f1.f2)):=hcc7 3 _ rfl;have hx7_4:w14.cell? ⟨go5,(x5_1:Int).toNat*5+4,none⟩=some (ve7_4):=hcc7 4 _ rfl;have hf7_0:w14.frozen? ⟨go5,(x5_1:Int).toNat*5,none⟩=false:=hfr7 0;have hf7_1:w14.frozen? ⟨go5,(x5_1:Int).toNat*5+1,none⟩=false:=hfr7 1;have hf7_2:w14.frozen? ⟨go5,(x5_1:Int).toNat*5+2,none⟩=false:=hfr7 2;have hf7_3:w14.frozen? ⟨go5,(x5_1:Int).toNat*5+3,none⟩=false:=hfr7 3;have hf7_4:w14.frozen? ⟨go5,(x5_1:Int).toNat*5+4,none⟩=false:=hfr7 4;clear hcl7 hcc7 hfr7 hM7;replace p7:=eq_true p7;replace q7:=eq_true q7;have HX15:=aM (show Kd.S k65 65 w14 w0.heap.size (fun k_=>((fun k_=>P0_ k_)) k_∧¬ ((fun _=>False)) k_) (.slice (some ⟨go5,0,none⟩) x0_1.length co10) y604 from (ks (Kd.S_mono HO_0.out (fun k_ hk=>⟨hk,fun e_=>e_⟩))));obtain ⟨oki15,ce15,hcl15,hM15,hcc15,hfr15,hoki15,hH15⟩:=Kd.S_elem HX15.out z65 (x5_1:Int) (of_decide_eq_true (by first|(with_reducible assumption)|assumption)) (by have h_:(x5_1:Int)<((x0_1.length:Int):Int):=of_decide_eq_true (by first|(with_reducible assumption)|assumption);first|exact h_|(have e_:=(Kd.S_reads' HO_0.out).1;omega)|simpa using h_);obtain ⟨ve15_4,rfl,ge15_4⟩:=k65_openM hM15;have HP15:=Kd.S_seg hH15 (of_decide_eq_true (by first|(with_reducible assumption)|assumption)) (by have h_:(x5_1:Int)<((x0_1.length:Int):Int):=of_decide_eq_true (by first|(with_reducible assumption)|assumption);first|exact h_|(have e_:=(Kd.S_reads' HO_0.out).1;omega)|simpa using h_) (seg:=[.int .i64 (wrap64 ((wrap64 (x1_1+1))+1))]) (j:=2) (show 3≤5 from by decide) (x':=(⟨(rd_T65 y604 x5_1).f0,(⟨(rd_T65 y604 x5_1).f1.f0,wrap64 ((wrap64 (x1_1+1))+1),(rd_T65 y604 x5_1).f1.f2,(rd_T65 y604 x5_1).f1.f3⟩:S40)⟩:S65)) (k65_mkM _ _ _ (⟨(rd_T65 y604 x5_1).f0,(⟨(rd_T65 y604 x5_1).f1.f0,wrap64 ((wrap64 (x1_1+1))+1),(rd_T65 y604 x5_1).f1.f2,(rd_T65 y604 x5_1).f1.f3⟩:S40)⟩:S65) (Kd.R_mono ge15_4 (fun _ h_=>Or.inl h_))) (fun _ hk=>hk) (fun k_ hk_=>hk_.elim);have hx15_2:=hcc15 2 _ rfl;(try simp only [show (k65).sz=5 from rfl,Nat.mul_one,Nat.add_zero] at hx15_2);have hf15_2:=hfr15 2;(try simp only [show (k65).sz=5 from rfl,Nat.mul_one,Nat.add_zero] at hf15_2);clear hcl15 hcc15 hfr15 hM15 hoki15 hH15)|((with_reducible refine gate_store (t:=3) (p:=32) rfl ?_);refine store_event (t:=3) (p:=32) (v:=?vo_w16) (w1:=(w14.setCell ⟨go5,(x5_1:Int).toNat*5+2,none⟩ (.int .i64 (wrap64 ((wrap64 (x1_1+1))+1))))) ?hg ?ho ?hn ?hr ?_;(case ho=>rfl);(case hg=>rfl);(case hn=>rfl);(case hr=>first|(go_simp;done)|(go_simp;rfl)|(obtain ⟨A_,c_,e_⟩:=Kd.R_slice HO_0.out;subst e_;(first|(go_simp;done)|(go_simp;rfl)))|(obtain ⟨A_,c_,e_⟩:=Kd.S_slice HO_0.out;subst e_;(first|(go_simp;done)|(go_simp;rfl))));intro w16 hw;have hg:w14.grownBy w16 (some go5):=(by rw [hw];exact HP15.2);have hp_:Kd.S k65 65 w16 w0.heap.size (fun k_=>P0_ k_) (.slice (some ⟨go5,0,none⟩) x0_1.length co10) y605:=(by rw [hw,Ny605.out];exact HP15.1);clear HP15;have n0_:=aM (hp_);have n1_:=aM ((by rw [hw];exact below_set (HB.out) GB5.out:Below w0.heap.size w0 w16));have n2_:=aM (Kept.of_grown (S:=(fun k_=>P0_ k_)) hg (by repeat (first|(with_reducible first|exact HK.out|apply Kept.alloc|apply Kept.drewN|apply Kept.drew)|exact HK.out)) (fun k_ e_=>.inl ((Kd.S_R HO_0.out).1 k_ e_)));clear HO_0 HB HK;have HO_0:=n0_;have HB:=n1_;have HK:=n2_;clear n0_ n1_ n2_;clear hg hw hp_;have p8:0≤(x5_1:Int):=of_decide_eq_true (by first|(with_reducible assumption)|assumption);have q8:(x5_1:Int)<((x0_1.length:Int):Int):=of_decide_eq_true (by first|(with_reducible assumption)|assumption);obtain ⟨_,ce8,hcl8,hM8,hcc8,hfr8,_,_⟩:=Kd.S_elem HO_0.out z65 (x5_1:Int) p8 q8;obtain ⟨ve8_4,rfl,ge8_4⟩:=k65_openM hM8;have hx8_0:w16.cell? ⟨go5,(x5_1:Int).toNat*5,none⟩=some (.int .i64 ((rd_T65 y605 x5_1).f0)):=hcc8 0 _ rfl;have hx8_1:w16.cell? ⟨go5,(x5_1:Int).toNat*5+1,none⟩=some (.int .i64 ((rd_T65 y605 x5_1).f1.f0)):=hcc8 1 _ rfl;have hx8_2:w16.cell? ⟨go5,(x5_1:Int).toNat*5+2,none⟩=some (.int .i64 ((rd_T65 y605 x5_1).f1.f1)):=hcc8 2 _ rfl;have hx8_3:w16.cell? ⟨go5,(x5_1:Int).toNat*5+3,none⟩=some (.int .i64 ((rd_T65 y605 x5_1).f1.f2)):=hcc8 3 _ rfl;have hx8_4:w16.cell? ⟨go5,(x5_1:Int).toNat*5+4,none⟩=some (ve8_4):=hcc8 4 _ rfl;have hf8_0:w16.frozen? ⟨go5,(x5_1:Int).toNat*5,none⟩=false:=hfr8 0;have hf8_1:w16.frozen? ⟨go5,(x5_1:Int).toNat*5+1,none⟩=false:=hfr8 1;have hf8_2:w16.frozen? ⟨go5,(x5_1:Int).toNat*5+2,none⟩=false:=hfr8 2;have hf8_3:w16.frozen? ⟨go5,(x5_1:Int).toNat*5+3,none⟩=false:=hfr8 3;have hf8_4:w16.frozen? ⟨go5,(x5_1:Int).toNat*5+4,none⟩=false:=hfr8 4;clear hcl8 hcc8 hfr8 hM8;replace p8:=eq_true p8;replace q8:=eq_true q8;have HX17:=aM (show Kd.S k65 65 w16 w0.heap.size (fun k_=>((fun k_=>P0_ k_)) k_∧¬ ((fun _=>False)) k_) (.slice (some ⟨go5,0,none⟩) x0_1.length co10) y605 from (ks (Kd.S_mono HO_0.out (fun k_ hk=>⟨hk,fun e_=>e_⟩))));obtain ⟨oki17,ce17,hcl17,hM17,hcc17,hfr17,hoki17,hH17⟩:=Kd.S_elem HX17.out z65 (x5_1:Int) (of_decide_eq_true (by first|(with_reducible assumption)|assumption)) (by have h_:(x5_1:Int)<((x0_1.length:Int):Int):=of_decide_eq_true (by first|(with_reducible assumption)|assumption);first|exact h_|(have e_:=(Kd.S_reads' HO_0.out).1;omega)|simpa using h_);obtain ⟨ve17_4,rfl,ge17_4⟩:=k65_openM hM17;have HP17:=Kd.S_seg hH17 (of_decide_eq_true (by first|(with_reducible assumption)|assumption)) (by have h_:(x5_1:Int)<((x0_1.length:Int):Int):=of_decide_eq_true (by first|(with_reducible assumption)|assumption);first|exact h_|(have e_:=(Kd.S_reads' HO_0.out).1;omega)|simpa using h_) (seg:=[.int .i64 (wrap64 ((wrap64 ((wrap64 (x1_1+1))+1))+1))]) (j:=3) (show 4≤5 from by decide) (x':=(⟨(rd_T65 y605 x5_1).f0,(⟨(rd_T65 y605 x5_1).f1.f0,(rd_T65 y605 x5_1).f1.f1,wrap64 ((wrap64 ((wrap64 (x1_1+1))+1))+1),(rd_T65 y605 x5_1).f1.f3⟩:S40)⟩:S65)) (k65_mkM _ _ _ (⟨(rd_T65 y605 x5_1).f0,(⟨(rd_T65 y605 x5_1).f1.f0,(rd_T65 y605 x5_1).f1.f1,wrap64 ((wrap64 ((wrap64 (x1_1+1))+1))+1),(rd_T65 y605 x5_1).f1.f3⟩:S40)⟩:S65) (Kd.R_mono ge17_4 (fun _ h_=>Or.inl h_))) (fun _ hk=>hk) (fun k_ hk_=>hk_.elim);have hx17_3:=hcc17 3 _ rfl;(try simp only [show (k65).sz=5 from rfl,Nat.mul_one,Nat.add_zero] at hx17_3);have hf17_3:=hfr17 3;(try simp only [show (k65).sz=5 from rfl,Nat.mul_one,Nat.add_zero] at hf17_3);clear hcl17 hcc17 hfr17 hM17 hoki17 hH17)|((with_reducible refine gate_store (t:=3) (p:=40) rfl ?_);refine store_event (t:=3) (p:=40) (v:=?vo_w18) (w1:=(w16.setCell ⟨go5,(x5_1:Int).toNat*5+3,none⟩ (.int .i64 (wrap64 ((wrap64 ((wrap64 (x1_1+1))+1))+1))))) ?hg ?ho ?hn ?hr ?_;(case ho=>rfl);(case hg=>rfl);(case hn=>rfl);(case hr=>first|(go_simp;done)|(go_simp;rfl)|(obtain ⟨A_,c_,e_⟩:=Kd.R_slice HO_0.out;subst e_;(first|(go_simp;done)|(go_simp;rfl)))|(obtain ⟨A_,c_,e_⟩:=Kd.S_slice HO_0.out;subst e_;(first|(go_simp;done)|(go_simp;rfl))));intro w18 hw;have hg:w16.grownBy w18 (some go5):=(by rw [hw];exact HP17.2);have hp_:Kd.S k65 65 w18 w0.heap.size (fun k_=>P0_ k_) (.slice (some ⟨go5,0,none⟩) x0_1.length co10) y606:=(by rw [hw,Ny606.out];exact HP17.1);clear HP17;have n0_:=aM (hp_);have n1_:=aM ((by rw [hw];exact below_set (HB.out) GB5.out:Below w0.heap.size w0 w18));have n2_:=aM (Kept.of_grown (S:=(fun k_=>P0_ k_)) hg (by repeat (first|(with_reducible first|exact HK.out|apply Kept.alloc|apply Kept.drewN|apply Kept.drew)|exact HK.out)) (fun k_ e_=>.inl ((Kd.S_R HO_0.out).1 k_ e_)));clear HO_0 HB HK;have HO_0:=n0_;have HB:=n1_;have HK:=n2_;clear n0_ n1_ n2_;clear hg hw hp_;have p607:0≤(x5_1:Int):=of_decide_eq_true (by first|(with_reducible assumption)|assumption);have q607:x5_1<(y606.length:Int):=(by have h_:(x5_1:Int)<((x0_1.length:Int):Int):=of_decide_eq_true (by first|(with_reducible assumption)|assumption);first|(have e_:=(Kd.S_reads' HO_0.out).1;omega)|simpa only [Ny603.out,Ny604.out,Ny605.out,Ny606.out,List.length_set] using h_);have ql607:((x5_1:Int)<((x0_1.length:Int):Int))=True:=eq_true (of_decide_eq_true (by first|(with_reducible assumption)|assumption));obtain ⟨ad607,A607_4,c607_4,e607,hx607_0,hx607_1,hx607_2,hx607_3,hx607_4,hl607_4,hi607_4⟩:=at_T65 (Kd.S_reads' HO_0.out).2.2 x5_1 p607 q607;obtain rfl:(⟨go5,0,none⟩:Addr)=ad607:=(by injection e607);obtain ⟨ce607,hce607,hMe607,hcc607⟩:=Kd.S_get HO_0.out z65 x5_1 p607 (by first|exact q607|exact of_decide_eq_true (by first|(with_reducible assumption)|assumption)|(have e_:=(Kd.S_reads' HO_0.out).1;omega));obtain ⟨ve607_4,rfl,ge607_4⟩:=k65_openM hMe607;have hv607_4:=hcc607 4 _ rfl;rw [add_field _ _ 4 (by omega)] at hv607_4;replace hv607_4:=Option.some.inj (hv607_4.symm.trans hx607_4);rw [hv607_4] at ge607_4;have HL607_4:=aM (show Kd.R (Kd.int .u8) 5 _ _ _ _ ((rd_T65 y606 x5_1).f1.f3) from ge607_4);clear hv607_4 ge607_4;clear hcc607 hce607;(first|simp only [add_plain] at hx607_0|simp only [add_at] at hx607_0|simp only [Addr.add,Nat.zero_add] at hx607_0|skip);(first|simp only [add_plain] at hx607_1|simp only [add_at] at hx607_1|simp only [Addr.add,Nat.zero_add] at hx607_1|skip);(first|simp only [add_plain] at hx607_2|simp only [add_at] at hx607_2|simp only [Addr.add,Nat.zero_add] at hx607_2|skip);(first|simp only [add_plain] at hx607_3|simp only [add_at] at hx607_3|simp only [Addr.add,Nat.zero_add] at hx607_3|skip);(first|simp only [add_plain] at hx607_4|simp only [add_at] at hx607_4|simp only [Addr.add,Nat.zero_add] at hx607_4|skip);have HR607_4:=aM hi607_4;have HC607_4:=aM hl607_4;clear hi607_4 hl607_4;replace p607:=eq_true p607;replace q607:=eq_true q607)|((with_reducible refine gate_callee (f:=48) rfl ?_);refine goesL_ (some 50) rfl rfl Try.func48 (by kernel_rfl) rfl #[.slice A607_4 ((rd_T65 y606 x5_1).f1.f3).length c607_4,.int .i64 (wrap64 ((wrap64 ((wrap64 ((wrap64 (x1_1+1))+1))+1))+1))] rfl xR ?_;obtain ⟨oki_,hoki_,hge_,hback_⟩:=out1_lend HO_0.out (of_decide_eq_true (by first|(with_reducible assumption)|assumption)) (of_decide_eq_true (by first|(with_reducible assumption)|assumption)) hx607_4;(with_reducible refine (Y18.calls k1 oki_ _ ((rd_T65 y606 x5_1).f1.f3) (wrap64 ((wrap64 ((wrap64 ((wrap64 (x1_1+1))+1))+1))+1)) t608 t608r w0 _ HB.out hge_ A9.out).mono ?_);rintro e w77 ⟨rfl,hy,hb,hkp⟩;refine ⟨_,rfl,?_⟩;have n0_:=aM (hback_ hkp hy);have n1_:=aM hb;have n2_:=aM (Kept.then_ HK.out hkp (fun k_ hk_=>.inl (hoki_ k_ hk_)));clear HO_0 HB HK;have HO_0:=n0_;have HB:=n1_;have HK:=n2_;clear n0_ n1_ n2_))
   go_roundg k1
   case measure=>have:=HK1.out;omega
   case rel=>exact ⟨(y606.set (x5_1:Int).toNat (⟨(rd_T65 y606 x5_1).f0,(⟨(rd_T65 y606 x5_1).f1.f0,(rd_T65 y606 x5_1).f1.f1,(rd_T65 y606 x5_1).f1.f2,t608r⟩:S40)⟩:S65)),(t608),(wrap64 (x5_1+1)),xE,xE,H',⟨by have:=HK1.out;omega⟩,⟨ks HO_0.out⟩,⟨by repeat (first|(with_reducible first|exact HK.out|apply Kept.alloc|apply Kept.drewN|apply Kept.drew)|exact HK.out)⟩,⟨bl HB.out⟩⟩

def Y49.T8:Bool × List (List Nat × List Nat):=(true,[([],[]),([0],[0]),([],[]),([],[]),([3,1],[3]),([1,2,4,4],[1,2,4]),([5],[5]),([6],[6]),([6],[6]),([],[]),([9,7,5,0,1,2,3,4,5,6,7,9],[7,9]),([8,10,0,1,2,3,4,5,6,7,8,9,10],[8])])
def Y49.B8:List Nat:=[0,1,0,0,11,31,63,127,127,0,767,2047]
theorem Y49.tab8:rtab .any (opsOf Try.f3 8)=Y49.T8:=by kernel_rfl
theorem Y49.bits8:waitsOk Y49.T8.2 Y49.B8=true:=by kernel_rfl
def Y49.T35:Bool × List (List Nat × List Nat):=(true,[([],[]),([0],[0]),([],[]),([],[]),([3,1],[3]),([1,2,4,4],[1,2,4]),([5],[5]),([6],[6]),([6],[6]),([],[]),([9,7,5,0,1,2,3,4,5,6,7,9],[7,9]),([8,10,0,1,2,3,4,5,6,7,8,9,10],[8])])
def Y49.B35:List Nat:=[0,1,0,0,11,31,63,127,127,0,767,2047]
theorem Y49.tab35:rtab .any (opsOf Try.f3 35)=Y49.T35:=by kernel_rfl
theorem Y49.bits35:waitsOk Y49.T35.2 Y49.B35=true:=by kernel_rfl
theorem fill3_box {W:World} {g t:Nat} {a0 a1 a2:Value} (h:W.heap[g]?=some (.cells #[a0,a1,a2] t (0,0))) (u0 u1 u2:Value):(((W.setCell ⟨g,0,none⟩ u0).setCell ⟨g,1,none⟩ u1).setCell ⟨g,2,none⟩ u2).heap[g]?=some (.cells #[u0,u1,u2] t (0,0)) :=
 blk_put (cs:=#[u0,u1,a2]) (blk_put (cs:=#[u0,a1,a2]) (blk_put (cs:=#[a0,a1,a2]) h 0 u0 rfl) 1 u1 rfl) 2 u2 rfl
theorem fill3_kept (W:World) (g:Nat) (u0 u1 u2:Value):Kept W (((W.setCell ⟨g,0,none⟩ u0).setCell ⟨g,1,none⟩ u1).setCell ⟨g,2,none⟩ u2) (fun k=>k=g) :=
 Kept.setCell (Kept.setCell (Kept.setCell (Kept.refl W (fun k=>k=g)) (.inl rfl) u0) (.inl rfl) u1) (.inl rfl) u2
theorem fill3_below {w W:World} {g:Nat} (h:Below w.heap.size w W) (hg:w.heap.size≤g) (u0 u1 u2:Value):Below w.heap.size w (((W.setCell ⟨g,0,none⟩ u0).setCell ⟨g,1,none⟩ u1).setCell ⟨g,2,none⟩ u2):=below_set (below_set (below_set h hg) hg) hg
theorem fill4_box {W:World} {g t:Nat} {a0 a1 a2 a3:Value} (h:W.heap[g]?=some (.cells #[a0,a1,a2,a3] t (0,0))) (u0 u1 u2 u3:Value):((((W.setCell ⟨g,0,none⟩ u0).setCell ⟨g,1,none⟩ u1).setCell ⟨g,2,none⟩ u2).setCell ⟨g,3,none⟩ u3).heap[g]?=some (.cells #[u0,u1,u2,u3] t (0,0)) :=
 blk_put (cs:=#[u0,u1,u2,a3]) (blk_put (cs:=#[u0,u1,a2,a3]) (blk_put (cs:=#[u0,a1,a2,a3]) (blk_put (cs:=#[a0,a1,a2,a3]) h 0 u0 rfl) 1 u1 rfl) 2 u2 rfl) 3 u3 rfl
theorem fill4_kept (W:World) (g:Nat) (u0 u1 u2 u3:Value):Kept W ((((W.setCell ⟨g,0,none⟩ u0).setCell ⟨g,1,none⟩ u1).setCell ⟨g,2,none⟩ u2).setCell ⟨g,3,none⟩ u3) (fun k=>k=g):=Kept.setCell (fill3_kept W g u0 u1 u2) (.inl rfl) u3
theorem fill4_below {w W:World} {g:Nat} (h:Below w.heap.size w W) (hg:w.heap.size≤g) (u0 u1 u2 u3:Value):Below w.heap.size w ((((W.setCell ⟨g,0,none⟩ u0).setCell ⟨g,1,none⟩ u1).setCell ⟨g,2,none⟩ u2).setCell ⟨g,3,none⟩ u3):=below_set (fill3_below h hg u0 u1 u2) hg
theorem S_stays {α:Type} {d:Kd α} {e B:Nat} {W W':World} {U Q:Nat→Prop} {v:Value} {xs:List α} (h:Kd.S d e W B U v xs) (hK:Kept W W' Q) (hq:∀ k,U k→¬ Q k):Kd.S d e W' B U v xs:=Kd.S_step h (fun k hk hlt=>hK.2 k hlt (hq k hk))
theorem R_stays {α:Type} {d:Kd α} {e B:Nat} {W W':World} {U Q:Nat→Prop} {v:Value} {xs:List α} (h:d.R e W B U v xs) (hK:Kept W W' Q) (hq:∀ k,U k→¬ Q k):d.R e W' B U v xs:=Kd.R_step h (fun k hk hlt=>hK.2 k hlt (hq k hk))
theorem CardS.forms {B:Nat} {W:World} {U:Nat→Prop} {v0 v1 v2:Value} {o:List Bool} {m:List S60} {t:List S86} (h:CardS B W U v0 v1 v2 o m t):∃ A0 n0 c0 A1 n1 c1 A2 n2 c2,v0=.slice A0 n0 c0∧v1=.slice A1 n1 c1∧v2=.slice A2 n2 c2:=by
 obtain ⟨A0,c0,A1,c1,A2,c2,h0,h1,h2,_⟩:=h.reads;exact ⟨A0,_,c0,A1,_,c1,A2,_,c2,h0,h1,h2⟩
theorem R_form1 {α:Type} {d:Kd α} {e B:Nat} {W:World} {U:Nat→Prop} {v:Value} {xs:List α} (h:d.R e W B U v xs):∃ A n c,v=.slice A n c:=by
 obtain ⟨A,c,he⟩:=Kd.R_slice h;exact ⟨A,_,c,he⟩
theorem S_form1 {α:Type} {d:Kd α} {e B:Nat} {W:World} {U:Nat→Prop} {v:Value} {xs:List α} (h:Kd.S d e W B U v xs):∃ A n c,v=.slice A n c:=R_form1 (Kd.S_R h)
/-- The calls over whole cards, frames and lists of what goes out. -/
theorem to_card (k lo:Nat) {B:Nat} {W:World} {A0:Option Addr} {c0:Nat} {l0:List Bool} {A1:Option Addr} {c1:Nat} {l1:List S79} {A2:Option Addr} {c2:Nat} {l2:List S90} {o:List Bool} {m:List S60} {t:List S86} (hlo:lo≤W.heap.size) (hB:B≤W.heap.size) (r0:Kd.C Kd.bool W A0 l0.length l0) (n0:l0.length≤c0) (r1:Kd.C k79 W A1 l1.length l1) (n1:l1.length≤c1) (r2:Kd.C k90 W A2 l2.length l2) (n2:l2.length≤c2) (h:Y63.f k l0 l1 l2=some (o,m,t)) :
  Calls Try.prog 7 #[.agg #[.slice A0 l0.length c0,.slice A1 l1.length c1,.slice A2 l2.length c2]] W fun e w'=>∃ (u0 u1 u2:Value) (U:Nat→Prop),e=.returned (.agg #[u0,u1,u2])∧Below W.heap.size W w'∧(∀ k,U k→lo≤k∧k<w'.heap.size)∧CardS B w' U u0 u1 u2 o m t:=by
 refine (Y63.calls k A0 c0 l0 A1 c1 l1 A2 c2 l2 o m t W r0 n0 r1 n1 r2 n2 h).mono ?_;rintro e w' ⟨u0,u1,u2,he,h0,h1,h2,hb⟩;exact ⟨u0,u1,u2,_,he,hb,fun k hk=>⟨Nat.le_trans hlo hk.1,hk.2⟩,CardS.make hB h0 h1 h2⟩
theorem to_frame (k lo:Nat) {B:Nat} {W:World} {b0 b1 b2:Int} {A3:Option Addr} {c3:Nat} {l3:List Int} {f0 f1 f2:Int} {ld:List Int} (hlo:lo≤W.heap.size) (hB:B≤W.heap.size) (r3:Kd.C (Kd.int .u8) W A3 l3.length l3) (n3:l3.length≤c3) (h:Y66.f k b0 b1 b2 l3=some (f0,f1,f2,ld)) :
  Calls Try.prog 8 #[.agg #[.int .i64 b0,.int .i64 b1,.int .i64 b2,.slice A3 l3.length c3]] W fun e w'=>∃ (u3:Value) (U:Nat→Prop),e=.returned (.agg #[.int .i64 f0,.int .i64 f1,.int .i64 f2,u3])∧Below W.heap.size W w'∧(∀ k,U k→lo≤k∧k<w'.heap.size)∧Kd.R (Kd.int .u8) 5 w' B U u3 ld:=by
 refine (Y66.calls k b0 b1 b2 A3 c3 l3 f0 f1 f2 ld W r3 n3 h).mono ?_;rintro e w' ⟨u3,he,h3,hb⟩;exact ⟨u3,_,he,hb,fun k hk=>⟨Nat.le_trans hlo hk.1,hk.2⟩,rng_R hB h3⟩
theorem spec_pass (k lo:Nat) {B:Nat} {W:World} {U:Nat→Prop} {v0 v1 v2:Value} {o:List Bool} {m:List S60} {t:List S86} {UF:Nat→Prop} {v3:Value} {ld:List Int} {a1 b0 b1 b2:Int} {r1:List Bool} {r2:List S60} {r3:List S86} {r4:List S65} (hlo:lo≤W.heap.size) (hB:B≤W.heap.size) (hC:CardS B W U v0 v1 v2 o m t) (hF:Kd.R (Kd.int .u8) 5 W B UF v3 ld) (h:Y0.f k o m t a1 b0 b1 b2 ld=some (r1,r2,r3,r4)) :
  Calls Try.prog 6 #[.agg #[v0,v1,v2],.int .i64 a1,.agg #[.int .i64 b0,.int .i64 b1,.int .i64 b2,v3]] W fun e w'=>∃ (u0 u1 u2 u3:Value) (U V:Nat→Prop),e=.returned (.tuple #[.agg #[u0,u1,u2],u3])∧Below W.heap.size W w'∧(∀ k,U k→lo≤k∧k<w'.heap.size)∧(∀ k,V k→lo≤k∧k<w'.heap.size)∧(∀ k,U k→¬ V k)∧CardS B w' U u0 u1 u2 r1 r2 r3∧Kd.S k65 65 w' B V u3 r4:=by
 obtain ⟨A0,c0,A1,c1,A2,c2,rfl,rfl,rfl,l0,l1,l2,q0,q1,q2⟩:=hC.reads;obtain ⟨A3,c3,rfl,l3,q3⟩:=Kd.R_reads hF;refine (Y0.calls k A0 c0 o A1 c1 m A2 c2 t a1 b0 b1 b2 A3 c3 ld r1 r2 r3 r4 W q0 l0 q1 l1 q2 l2 q3 l3 h).mono ?_;rintro e w' ⟨u0,u1,u2,u3,he,h0,h1,h2,h3,hb⟩;obtain ⟨U,V,i1,i2,d,hc,hs⟩:=pass_make hB h0 h1 h2 h3;exact ⟨u0,u1,u2,u3,U,V,he,hb,fun k hk=>⟨Nat.le_trans hlo (i1 k hk).1,(i1 k hk).2⟩,fun k hk=>⟨Nat.le_trans hlo (i2 k hk).1,(i2 k hk).2⟩,d,hc,hs⟩
theorem impl_pass (k lo:Nat) {B:Nat} {W:World} {U:Nat→Prop} {v0 v1 v2:Value} {o:List Bool} {m:List S60} {t:List S86} {UF:Nat→Prop} {v3:Value} {ld:List Int} {a1 b0 b1 b2:Int} {r1:List Bool} {r2:List S60} {r3:List S86} {r4:List S65} (hlo:lo≤W.heap.size) (hB:B≤W.heap.size) (hC:CardS B W U v0 v1 v2 o m t) (hF:Kd.R (Kd.int .u8) 5 W B UF v3 ld) (h:Y1.f k o m t a1 b0 b1 b2 ld=some (r1,r2,r3,r4)) :
  Calls Try.prog 9 #[.agg #[v0,v1,v2],.int .i64 a1,.agg #[.int .i64 b0,.int .i64 b1,.int .i64 b2,v3]] W fun e w'=>∃ (u0 u1 u2 u3:Value) (U V:Nat→Prop),e=.returned (.tuple #[.agg #[u0,u1,u2],u3])∧Below W.heap.size W w'∧(∀ k,U k→lo≤k∧k<w'.heap.size)∧(∀ k,V k→lo≤k∧k<w'.heap.size)∧(∀ k,U k→¬ V k)∧CardS B w' U u0 u1 u2 r1 r2 r3∧Kd.S k65 65 w' B V u3 r4:=by
 obtain ⟨A0,c0,A1,c1,A2,c2,rfl,rfl,rfl,l0,l1,l2,q0,q1,q2⟩:=hC.reads;obtain ⟨A3,c3,rfl,l3,q3⟩:=Kd.R_reads hF;refine (Y1.calls k A0 c0 o A1 c1 m A2 c2 t a1 b0 b1 b2 A3 c3 ld r1 r2 r3 r4 W q0 l0 q1 l1 q2 l2 q3 l3 h).mono ?_;rintro e w' ⟨u0,u1,u2,u3,he,h0,h1,h2,h3,hb⟩;obtain ⟨U,V,i1,i2,d,hc,hs⟩:=pass_make hB h0 h1 h2 h3;exact ⟨u0,u1,u2,u3,U,V,he,hb,fun k hk=>⟨Nat.le_trans hlo (i1 k hk).1,(i1 k hk).2⟩,fun k hk=>⟨Nat.le_trans hlo (i2 k hk).1,(i2 k hk).2⟩,d,hc,hs⟩
theorem eq_card (k:Nat) {B:Nat} {W:World} {U:Nat→Prop} {v0 v1 v2:Value} {o:List Bool} {m:List S60} {t:List S86} {U':Nat→Prop} {u0 u1 u2:Value} {o':List Bool} {m':List S60} {t':List S86} {r:Bool} (hC:CardS B W U v0 v1 v2 o m t) (hD:CardS B W U' u0 u1 u2 o' m' t') (h:Y59.f k o m t o' m' t'=some r) :
  Calls Try.prog 10 #[.agg #[v0,v1,v2],.agg #[u0,u1,u2]] W fun e w'=>e=.returned (.bool r)∧Below W.heap.size W w':=by
 obtain ⟨A0,c0,A1,c1,A2,c2,rfl,rfl,rfl,l0,l1,l2,r0,r1,r2⟩:=hC.reads;obtain ⟨X0,d0,X1,d1,X2,d2,rfl,rfl,rfl,n0,n1,n2,s0,s1,s2⟩:=hD.reads;exact Y59.calls k A0 c0 o A1 c1 m A2 c2 t X0 d0 o' X1 d1 m' X2 d2 t' r W r0 l0 r1 l1 r2 l2 s0 n0 s1 n1 s2 n2 h
theorem eq_outs (k:Nat) {B:Nat} {W:World} {U V:Nat→Prop} {v u:Value} {x y:List S65} {r:Bool} (hC:Kd.S k65 65 W B U v x) (hD:Kd.S k65 65 W B V u y) (h:Y17.f k x y=some r) :
  Calls Try.prog 11 #[v,u] W fun e w'=>e=.returned (.bool r)∧Below W.heap.size W w':=by
 obtain ⟨A0,c0,rfl,l0,r0⟩:=Kd.S_reads hC;obtain ⟨A1,c1,rfl,l1,r1⟩:=Kd.S_reads hD;exact Y17.calls k A0 c0 x A1 c1 y r W r0 l0 r1 l1 h
theorem eq_frame (k:Nat) {B:Nat} {W:World} {U V:Nat→Prop} {v u:Value} {a0 a1 a2 b0 b1 b2:Int} {x y:List Int} {r:Bool} (hC:Kd.R (Kd.int .u8) 5 W B U v x) (hD:Kd.R (Kd.int .u8) 5 W B V u y) (h:Y52.f k a0 a1 a2 x b0 b1 b2 y=some r) :
  Calls Try.prog 12 #[.agg #[.int .i64 a0,.int .i64 a1,.int .i64 a2,v],.agg #[.int .i64 b0,.int .i64 b1,.int .i64 b2,u]] W fun e w'=>e=.returned (.bool r)∧Below W.heap.size W w':=by
 obtain ⟨A0,c0,rfl,l0,r0⟩:=Kd.R_reads hC;obtain ⟨A1,c1,rfl,l1,r1⟩:=Kd.R_reads hD;exact Y52.calls k a0 a1 a2 A0 c0 x b0 b1 b2 A1 c1 y r W r0 l0 r1 l1 h
theorem held_card (k:Nat) {B:Nat} {W:World} {U:Nat→Prop} {v0 v1 v2:Value} {o:List Bool} {m:List S60} {t:List S86} {a1 r:Int} (hC:CardS B W U v0 v1 v2 o m t) (h:Y65.f k o m t a1=some r) :
  Calls Try.prog 16 #[.agg #[v0,v1,v2],.int .i64 a1] W fun e w'=>e=.returned (.int .i64 r)∧Below W.heap.size W w':=by
 obtain ⟨A0,c0,A1,c1,A2,c2,rfl,rfl,rfl,l0,l1,l2,r0,r1,r2⟩:=hC.reads;exact Y65.calls k A0 c0 o A1 c1 m A2 c2 t a1 r W r0 l0 r1 l1 r2 l2 h
theorem held_outs (k:Nat) {B:Nat} {W:World} {U:Nat→Prop} {v:Value} {x:List S65} {a1 r:Int} (hC:Kd.S k65 65 W B U v x) (h:Y47.f k x a1=some r) :
  Calls Try.prog 17 #[v,.int .i64 a1] W fun e w'=>e=.returned (.int .i64 r)∧Below W.heap.size W w':=by
 obtain ⟨A0,c0,rfl,l0,r0⟩:=Kd.S_reads hC;exact (Y47.calls k A0 c0 x a1 r W r0 l0 h).mono (fun e w' ⟨he,hd⟩=>⟨he,hd.below⟩)
theorem mark_outs (k:Nat) {U:Nat→Prop} {v:Value} (x:List S65) (a1 r1:Int) (y:List S65) (w0 w:World) (hB:Below w0.heap.size w0 w) (hC:Kd.S k65 65 w w0.heap.size U v x) (h:Y28.f k x a1=some (r1,y)) :
  Calls Try.prog 15 #[v,.int .i64 a1] w fun e w'=>e=.returned (.int .i64 r1)∧Kd.S k65 65 w' w0.heap.size U v y∧Below w0.heap.size w0 w'∧Kept w w' U:=Y28.calls k U v x a1 r1 y w0 w hB hC h
theorem mark_frame (k:Nat) {U:Nat→Prop} {v:Value} {f0 f1 f2:Int} (x:List Int) (a1 r1:Int) (y:List Int) (w0 w:World) (hB:Below w0.heap.size w0 w) (hC:Kd.R (Kd.int .u8) 5 w w0.heap.size U v x) (h:Y64.f k f0 f1 f2 x a1=some (r1,y)) :
  Calls Try.prog 14 #[.agg #[.int .i64 f0,.int .i64 f1,.int .i64 f2,v],.int .i64 a1] w fun e w'=>e=.returned (.int .i64 r1)∧Below w0.heap.size w0 w'∧Kept w w' U :=
 (Y64.calls k f0 f1 f2 U v x a1 r1 y w0 w hB hC h).mono (fun e w' ⟨he,_,hb,hk⟩=>⟨he,hb,hk⟩)
def Y49.f (k:Nat) (l0_0:List Bool) (l0_1:List (S79)) (l0_2:List (S90)) (a1:Int) (a2_0:Int) (a2_1:Int) (a2_2:Int) (l2_3:List Int):Option (Bool) :=
 (Y60.f k l0_0 l0_1 l0_2 1048576).bind fun s1=>(if s1<0 then (some true) else ((Y78.f a2_0 a2_1 a2_2 l2_3 s1).bind fun s2=>(if s2<0 then (some true) else
 ((Y63.f k l0_0 l0_1 l0_2).bind fun c=>((Y66.f k a2_0 a2_1 a2_2 l2_3).bind fun f=>((Y0.f k c.1 c.2.1 c.2.2 a1 f.1 f.2.1 f.2.2.1 f.2.2.2).bind fun w0=>((Y1.f k c.1 c.2.1 c.2.2 a1 f.1 f.2.1 f.2.2.1 f.2.2.2).bind fun g0 =>
 ((Y59.f k g0.1 g0.2.1 g0.2.2.1 w0.1 w0.2.1 w0.2.2.1).bind fun e1=>((Y17.f k g0.2.2.2 w0.2.2.2).bind fun e2=>((Y59.f k c.1 c.2.1 c.2.2 c.1 c.2.1 c.2.2).bind fun e3=>((Y52.f k f.1 f.2.1 f.2.2.1 f.2.2.2 f.1 f.2.1 f.2.2.1 f.2.2.2).bind fun e4 =>
 (if (e1 && (e2 && (e3 && e4)))=true then ((Y74.f k c.1 c.2.1 c.2.2 1).bind fun k1=>((Y64.f k f.1 f.2.1 f.2.2.1 f.2.2.2 k1.1).bind fun k2=>(if k2.1<0 then none else
 ((Y74.f k g0.1 g0.2.1 g0.2.2.1 1).bind fun m1=>((Y28.f k g0.2.2.2 m1.1).bind fun m2=>((Y65.f k m1.2.1 m1.2.2.1 m1.2.2.2 1).bind fun q1=>(if q1<0 then none else ((Y47.f k m2.2 q1).bind fun q2=>(if q2<0 then none else (if q2=m2.1 then (some true) else none))))))))) ) else none))))))))))))
set_option maxHeartbeats 60000000 in
set_option maxRecDepth 100000 in
theorem Y49.calls (k:Nat) (A0_0:Option Addr) (c0_0:Nat) (l0_0:List Bool) (A0_1:Option Addr) (c0_1:Nat) (l0_1:List (S79)) (A0_2:Option Addr) (c0_2:Nat) (l0_2:List (S90)) (a1:Int) (a2_0:Int) (a2_1:Int) (a2_2:Int) (A2_3:Option Addr) (c2_3:Nat) (l2_3:List Int) (w:World) (hr0_0:Kd.C Kd.bool w A0_0 l0_0.length l0_0) (hc0_0:l0_0.length≤c0_0) (hr0_1:Kd.C k79 w A0_1 l0_1.length l0_1) (hc0_1:l0_1.length≤c0_1) (hr0_2:Kd.C k90 w A0_2 l0_2.length l0_2) (hc0_2:l0_2.length≤c0_2) (hr2_3:Kd.C (Kd.int .u8) w A2_3 l2_3.length l2_3) (hc2_3:l2_3.length≤c2_3) (h:Y49.f k l0_0 l0_1 l0_2 a1 a2_0 a2_1 a2_2 l2_3=some true) :
  Calls Try.prog 3 #[.agg #[.slice A0_0 l0_0.length c0_0,.slice A0_1 l0_1.length c0_1,.slice A0_2 l0_2.length c0_2],.int .i64 a1,.agg #[.int .i64 a2_0,.int .i64 a2_1,.int .i64 a2_2,.slice A2_3 l2_3.length c2_3]] w fun e w'=>e=.returned (.bool true)∧Below w.heap.size w w':=by
 have hu38:=Try.underlying26;have hu43:=Try.underlying35;have hu52:=Try.underlying40;have hu97:=Try.underlying29;have R0:=aM hr0_0;have R1:=aM hr0_1;have R2:=aM hr0_2;have R3:=aM hr2_3;have N0:=aM hc0_0;have N1:=aM hc0_1;have N2:=aM hc0_2;have N3:=aM hc2_3;clear hr0_0 hr0_1 hr0_2 hc0_0 hc0_1 hc0_2 hr2_3 hc2_3;have HB:=aM (Below.refl w.heap.size w);obtain ⟨s1,Z1,h_⟩:=Option.bind_eq_some_iff.mp h;clear h;have h:=h_;clear h_;have E1:=aM Z1;clear Z1
 by_cases hs:s1<0
 ·rw [if_pos hs] at h
  have hs1:decide (s1<0)=true:=decide_eq_true hs;clear hs;go_enter Try.func3,Try.ntmps3
  go_wp2_with (first|((with_reducible refine gate_dst (N:=3) rfl ?_);refine box_event ?hg (N:=3) ?hd (cs:=#[.slice A0_0 l0_0.length c0_0,.slice A0_1 l0_1.length c0_1,.slice A0_2 l0_2.length c0_2]) (t:=26) ?hr ?_;(case hd=>rfl);(case hg=>rfl);(case hr=>first|(go_simp;done)|(go_simp;rfl));intro g3 hg w1 hbox hb;replace HB:=aM (bS HB.out hb);have B3:=aM hbox;clear hb hbox hg;)|((with_reducible refine gate_dst (N:=5) rfl ?_);refine box_event ?hg (N:=5) ?hd (cs:=#[.int .i64 a2_0,.int .i64 a2_1,.int .i64 a2_2,.slice A2_3 l2_3.length c2_3]) (t:=29) ?hr ?_;(case hd=>rfl);(case hg=>rfl);(case hr=>first|(go_simp;done)|(go_simp;rfl));intro g5 hg w2 hbox hb;replace B3:=aM (bB B3.out hb);replace HB:=aM (bS HB.out hb);have B5:=aM hbox;clear hb hbox hg;have zb5_3_0:w2.cell? ⟨g3,0,none⟩=some (.slice A0_0 l0_0.length c0_0):=cI B3.out 0;have zb5_3_1:w2.cell? ⟨g3,1,none⟩=some (.slice A0_1 l0_1.length c0_1):=cI B3.out 1;have zb5_3_2:w2.cell? ⟨g3,2,none⟩=some (.slice A0_2 l0_2.length c0_2):=cI B3.out 2)|((with_reducible refine gate_callee (f:=4) rfl ?_);refine goesL_ (some 21) rfl rfl Try.func4 (by kernel_rfl) rfl #[.agg #[.slice A0_0 l0_0.length c0_0,.slice A0_1 l0_1.length c0_1,.slice A0_2 l0_2.length c0_2],.int .i64 1048576] rfl (by (try simp only [List.map_toArray,List.map_cons,List.map_nil]);first|done|rfl) ?_;(with_reducible refine (Y60.calls k _ _ l0_0 _ _ l0_1 _ _ l0_2 1048576 s1 _ (cB R0.out HB.out) N0.out (cB R1.out HB.out) N1.out (cB R2.out HB.out) N2.out E1.out).mono ?_);rintro e w3 ⟨rfl,hb⟩;refine ⟨_,rfl,?_⟩;replace B3:=aM (bB B3.out hb);replace B5:=aM (bB B5.out hb);replace HB:=aM (bS HB.out hb);clear hb;have zcw3_5_0:w3.cell? ⟨g5,0,none⟩=some (.int .i64 a2_0):=cI B5.out 0;have zcw3_5_1:w3.cell? ⟨g5,1,none⟩=some (.int .i64 a2_1):=cI B5.out 1;have zcw3_5_2:w3.cell? ⟨g5,2,none⟩=some (.int .i64 a2_2):=cI B5.out 2;have zcw3_5_3:w3.cell? ⟨g5,3,none⟩=some (.slice A2_3 l2_3.length c2_3):=cI B5.out 3))
  go_ret
  exact ⟨by first|rfl|(simp [errW_none,errW_some] <;> rfl),HB.out⟩
 rw [if_neg hs] at h
 have hs1:decide (s1<0)=false:=decide_eq_false hs;clear hs;obtain ⟨s2,Z1,h_⟩:=Option.bind_eq_some_iff.mp h;clear h;have h:=h_;clear h_;have E2:=aM Z1;clear Z1
 by_cases hs:s2<0
 ·rw [if_pos hs] at h
  have hs2:decide (s2<0)=true:=decide_eq_true hs;clear hs;go_enter Try.func3,Try.ntmps3
  go_wp2_with (first|((with_reducible refine gate_dst (N:=3) rfl ?_);refine box_event ?hg (N:=3) ?hd (cs:=#[.slice A0_0 l0_0.length c0_0,.slice A0_1 l0_1.length c0_1,.slice A0_2 l0_2.length c0_2]) (t:=26) ?hr ?_;(case hd=>rfl);(case hg=>rfl);(case hr=>first|(go_simp;done)|(go_simp;rfl));intro g3 hg w1 hbox hb;replace HB:=aM (bS HB.out hb);have B3:=aM hbox;clear hb hbox hg;)|((with_reducible refine gate_dst (N:=5) rfl ?_);refine box_event ?hg (N:=5) ?hd (cs:=#[.int .i64 a2_0,.int .i64 a2_1,.int .i64 a2_2,.slice A2_3 l2_3.length c2_3]) (t:=29) ?hr ?_;(case hd=>rfl);(case hg=>rfl);(case hr=>first|(go_simp;done)|(go_simp;rfl));intro g5 hg w2 hbox hb;replace B3:=aM (bB B3.out hb);replace HB:=aM (bS HB.out hb);have B5:=aM hbox;clear hb hbox hg;have zb5_3_0:w2.cell? ⟨g3,0,none⟩=some (.slice A0_0 l0_0.length c0_0):=cI B3.out 0;have zb5_3_1:w2.cell? ⟨g3,1,none⟩=some (.slice A0_1 l0_1.length c0_1):=cI B3.out 1;have zb5_3_2:w2.cell? ⟨g3,2,none⟩=some (.slice A0_2 l0_2.length c0_2):=cI B3.out 2)|((with_reducible refine gate_callee (f:=4) rfl ?_);refine goesL_ (some 21) rfl rfl Try.func4 (by kernel_rfl) rfl #[.agg #[.slice A0_0 l0_0.length c0_0,.slice A0_1 l0_1.length c0_1,.slice A0_2 l0_2.length c0_2],.int .i64 1048576] rfl (by (try simp only [List.map_toArray,List.map_cons,List.map_nil]);first|done|rfl) ?_;(with_reducible refine (Y60.calls k _ _ l0_0 _ _ l0_1 _ _ l0_2 1048576 s1 _ (cB R0.out HB.out) N0.out (cB R1.out HB.out) N1.out (cB R2.out HB.out) N2.out E1.out).mono ?_);rintro e w3 ⟨rfl,hb⟩;refine ⟨_,rfl,?_⟩;replace B3:=aM (bB B3.out hb);replace B5:=aM (bB B5.out hb);replace HB:=aM (bS HB.out hb);clear hb;have zcw3_5_0:w3.cell? ⟨g5,0,none⟩=some (.int .i64 a2_0):=cI B5.out 0;have zcw3_5_1:w3.cell? ⟨g5,1,none⟩=some (.int .i64 a2_1):=cI B5.out 1;have zcw3_5_2:w3.cell? ⟨g5,2,none⟩=some (.int .i64 a2_2):=cI B5.out 2;have zcw3_5_3:w3.cell? ⟨g5,3,none⟩=some (.slice A2_3 l2_3.length c2_3):=cI B5.out 3)|((with_reducible refine gate_callee (f:=5) rfl ?_);refine goesL_ (some 26) rfl rfl Try.func5 (by kernel_rfl) rfl #[.agg #[.int .i64 a2_0,.int .i64 a2_1,.int .i64 a2_2,.slice A2_3 l2_3.length c2_3],.int .i64 s1] rfl (by (try simp only [List.map_toArray,List.map_cons,List.map_nil]);first|done|rfl) ?_;(with_reducible refine (Y78.calls _ _ _ _ _ l2_3 s1 s2 _ (cB R3.out HB.out) N3.out E2.out).mono ?_);rintro e w4 ⟨rfl,hb⟩;refine ⟨_,rfl,?_⟩;replace B3:=aM (bB B3.out hb);replace B5:=aM (bB B5.out hb);replace HB:=aM (bS HB.out hb);clear hb;))
  go_ret
  exact ⟨by first|rfl|(simp [errW_none,errW_some] <;> rfl),HB.out⟩
 rw [if_neg hs] at h
 have hs2:decide (s2<0)=false:=decide_eq_false hs;clear hs;obtain ⟨⟨o,m,t⟩,Z3,h_⟩:=Option.bind_eq_some_iff.mp h;clear h;have h:=h_;clear h_;obtain ⟨⟨f0,f1,f2,ld⟩,Z4,h_⟩:=Option.bind_eq_some_iff.mp h;clear h;have h:=h_;clear h_;obtain ⟨⟨o1,m1,t1,x1⟩,Z5,h_⟩:=Option.bind_eq_some_iff.mp h;clear h;have h:=h_;clear h_;obtain ⟨⟨o2,m2,t2,x2⟩,Z6,h_⟩:=Option.bind_eq_some_iff.mp h;clear h;have h:=h_;clear h_;obtain ⟨e1,Z7,h_⟩:=Option.bind_eq_some_iff.mp h;clear h;have h:=h_;clear h_;obtain ⟨e2,Z8,h_⟩:=Option.bind_eq_some_iff.mp h;clear h;have h:=h_;clear h_;obtain ⟨e3,Z9,h_⟩:=Option.bind_eq_some_iff.mp h;clear h;have h:=h_;clear h_;obtain ⟨e4,Z10,h_⟩:=Option.bind_eq_some_iff.mp h;clear h;have h:=h_;clear h_;dsimp only at Z5 Z6 Z7 Z8 Z9 Z10 h
 by_cases he:(e1 && (e2 && (e3 && e4)))=true
 case neg=>rw [if_neg he] at h;cases h
 rw [if_pos he] at h
 simp only [Bool.and_eq_true] at he;obtain ⟨rfl,rfl,rfl,rfl⟩:=he;obtain ⟨⟨k1,o3,m3,t3⟩,Z11,h_⟩:=Option.bind_eq_some_iff.mp h;clear h;have h:=h_;clear h_;obtain ⟨⟨k2,ld3⟩,Z12,h_⟩:=Option.bind_eq_some_iff.mp h;clear h;have h:=h_;clear h_;dsimp only at Z12 h
 by_cases hk1:k2<0
 case pos=>rw [if_pos hk1] at h;cases h
 rw [if_neg hk1] at h
 obtain ⟨⟨n1,o4,m4,t4⟩,Z13,h_⟩:=Option.bind_eq_some_iff.mp h;clear h;have h:=h_;clear h_;obtain ⟨⟨n2,x4⟩,Z14,h_⟩:=Option.bind_eq_some_iff.mp h;clear h;have h:=h_;clear h_;obtain ⟨q1,Z15,h_⟩:=Option.bind_eq_some_iff.mp h;clear h;have h:=h_;clear h_;dsimp only at Z14 Z15 h
 by_cases hq1:q1<0
 case pos=>rw [if_pos hq1] at h;cases h
 rw [if_neg hq1] at h
 obtain ⟨q2,Z16,h_⟩:=Option.bind_eq_some_iff.mp h;clear h;have h:=h_;clear h_
 by_cases hq2:q2<0
 case pos=>rw [if_pos hq2] at h;cases h
 rw [if_neg hq2] at h
 by_cases hn:q2=n2
 case neg=>rw [if_neg hn] at h;cases h
 subst hn;clear h;have hk1b:decide (k2<0)=false:=decide_eq_false hk1;have hq1b:decide (q1<0)=false:=decide_eq_false hq1;have hq2b:decide (q2<0)=false:=decide_eq_false hq2;have hqe:(q2 == q2)=true:=beq_self_eq_true q2;have hqn:(q2 != q2)=false:=bne_self_eq_false q2;clear hk1 hq1 hq2;have E3:=aM Z3;clear Z3;have E4:=aM Z4;clear Z4;have E5:=aM Z5;clear Z5;have E6:=aM Z6;clear Z6;have E7:=aM Z7;clear Z7;have E8:=aM Z8;clear Z8;have E9:=aM Z9;clear Z9;have E10:=aM Z10;clear Z10;have E11:=aM Z11;clear Z11;have E12:=aM Z12;clear Z12;have E13:=aM Z13;clear Z13;have E14:=aM Z14;clear Z14;have E15:=aM Z15;clear Z15;have E16:=aM Z16;clear Z16;go_enter Try.func3,Try.ntmps3
 try go_wp2_with (first|((with_reducible refine gate_dst (N:=3) rfl ?_);refine box_event ?hg (N:=3) ?hd (cs:=#[.slice A0_0 l0_0.length c0_0,.slice A0_1 l0_1.length c0_1,.slice A0_2 l0_2.length c0_2]) (t:=26) ?hr ?_;(case hd=>rfl);(case hg=>rfl);(case hr=>first|(go_simp;done)|(go_simp;rfl));intro g3 hg w1 hbox hb;replace HB:=aM (bS HB.out hb);have B3:=aM hbox;clear hb hbox hg;)|((with_reducible refine gate_dst (N:=5) rfl ?_);refine box_event ?hg (N:=5) ?hd (cs:=#[.int .i64 a2_0,.int .i64 a2_1,.int .i64 a2_2,.slice A2_3 l2_3.length c2_3]) (t:=29) ?hr ?_;(case hd=>rfl);(case hg=>rfl);(case hr=>first|(go_simp;done)|(go_simp;rfl));intro g5 hg w2 hbox hb;replace B3:=aM (bB B3.out hb);replace HB:=aM (bS HB.out hb);have B5:=aM hbox;clear hb hbox hg;have zb5_3_0:w2.cell? ⟨g3,0,none⟩=some (.slice A0_0 l0_0.length c0_0):=cI B3.out 0;have zb5_3_1:w2.cell? ⟨g3,1,none⟩=some (.slice A0_1 l0_1.length c0_1):=cI B3.out 1;have zb5_3_2:w2.cell? ⟨g3,2,none⟩=some (.slice A0_2 l0_2.length c0_2):=cI B3.out 2)|((with_reducible refine gate_callee (f:=4) rfl ?_);refine goesL_ (some 21) rfl rfl Try.func4 (by kernel_rfl) rfl #[.agg #[.slice A0_0 l0_0.length c0_0,.slice A0_1 l0_1.length c0_1,.slice A0_2 l0_2.length c0_2],.int .i64 1048576] rfl (by (try simp only [List.map_toArray,List.map_cons,List.map_nil]);first|done|rfl) ?_;(with_reducible refine (Y60.calls k _ _ l0_0 _ _ l0_1 _ _ l0_2 1048576 s1 _ (cB R0.out HB.out) N0.out (cB R1.out HB.out) N1.out (cB R2.out HB.out) N2.out E1.out).mono ?_);rintro e w3 ⟨rfl,hb⟩;refine ⟨_,rfl,?_⟩;replace B3:=aM (bB B3.out hb);replace B5:=aM (bB B5.out hb);replace HB:=aM (bS HB.out hb);clear hb;have zcw3_5_0:w3.cell? ⟨g5,0,none⟩=some (.int .i64 a2_0):=cI B5.out 0;have zcw3_5_1:w3.cell? ⟨g5,1,none⟩=some (.int .i64 a2_1):=cI B5.out 1;have zcw3_5_2:w3.cell? ⟨g5,2,none⟩=some (.int .i64 a2_2):=cI B5.out 2;have zcw3_5_3:w3.cell? ⟨g5,3,none⟩=some (.slice A2_3 l2_3.length c2_3):=cI B5.out 3)|((with_reducible refine gate_callee (f:=5) rfl ?_);refine goesL_ (some 26) rfl rfl Try.func5 (by kernel_rfl) rfl #[.agg #[.int .i64 a2_0,.int .i64 a2_1,.int .i64 a2_2,.slice A2_3 l2_3.length c2_3],.int .i64 s1] rfl (by (try simp only [List.map_toArray,List.map_cons,List.map_nil]);first|done|rfl) ?_;(with_reducible refine (Y78.calls _ _ _ _ _ l2_3 s1 s2 _ (cB R3.out HB.out) N3.out E2.out).mono ?_);rintro e w4 ⟨rfl,hb⟩;refine ⟨_,rfl,?_⟩;replace B3:=aM (bB B3.out hb);replace B5:=aM (bB B5.out hb);replace HB:=aM (bS HB.out hb);clear hb;))
 replace B3:=aM (blk_drew B3.out);replace B5:=aM (blk_drew B5.out);replace HB:=aM (below_drew1 HB.out);refine start_ (n:=12) (S:=fun w'=>w'.cell? ⟨g3,0,none⟩=some (.slice A0_0 l0_0.length c0_0)∧w'.cell? ⟨g3,1,none⟩=some (.slice A0_1 l0_1.length c0_1)∧w'.cell? ⟨g3,2,none⟩=some (.slice A0_2 l0_2.length c0_2)∧w'.cell? ⟨g5,0,none⟩=some (.int .i64 a2_0)∧w'.cell? ⟨g5,1,none⟩=some (.int .i64 a2_1)∧w'.cell? ⟨g5,2,none⟩=some (.int .i64 a2_2)∧w'.cell? ⟨g5,3,none⟩=some (.slice A2_3 l2_3.length c2_3)) (ds:=[]) (dn 12 0) (by kernel_rfl) rfl rfl ⟨cI B3.out 0,cI B3.out 1,cI B3.out 2,cI B5.out 0,cI B5.out 1,cI B5.out 2,cI B5.out 3⟩ (fun hHeld=>?_);refine with_tabW Y49.tab8 Y49.bits8 (fun HT_ HW_=>?_)
 generalize w4.drew=wd8 at B3 B5 HB hHeld ⊢
 refine pure_ (i:=2) (N:=some 32) (v:=?_) (a':=?_) #[U,U,Y,U,U,U,U,U,U,U,U,U] rfl rfl (any_of HT_.out (by kernel_rfl)) (fun _ _ _ h=>h) (Or.inl ⟨by rfl,?_⟩) ?_ ?_
 rotate_left
 ·intro w'
  go_simp
  with_reducible rfl
 rotate_left
 ·simp only [Act.put,sA,sZ,sS,i64_w,i32_w]
  rfl
 refine take_ (i:=0) (N:=some 30) (v:=?_) (a':=?_) #[Y,U,Y,U,U,U,U,U,U,U,U,U] rfl rfl (take_ofW HT_.out HW_.out (by kernel_rfl)) (fun _ _ _ h=>h) (Or.inl ⟨by rfl,?_⟩) hHeld ?_ ?_
 rotate_left
 ·rintro w' ⟨s0,s1,s2,s3,s4,s5,s6⟩
  go_simp
  with_reducible rfl
 rotate_left
 ·simp only [Act.put,sA,sZ,sS,i64_w,i32_w]
  rfl
 refine take_ (i:=3) (N:=some 33) (v:=?_) (a':=?_) #[Y,U,Y,Y,U,U,U,U,U,U,U,U] rfl rfl (take_ofW HT_.out HW_.out (by kernel_rfl)) (fun _ _ _ h=>h) (Or.inl ⟨by rfl,?_⟩) hHeld ?_ ?_
 rotate_left
 ·rintro w' ⟨s0,s1,s2,s3,s4,s5,s6⟩
  go_simp
  with_reducible rfl
 rotate_left
 ·simp only [Act.put,sA,sZ,sS,i64_w,i32_w]
  rfl
 refine join_ (σ:=Value × Value × Value × Value × Value × Value × Value × Value × Nat) 2 #[Y,Y,Y,Y,Y,Y,Y,Y,Y,Y,U,U] (fun s_=>[(31,.agg #[s_.1,s_.2.1,s_.2.2.1]),(34,.agg #[.int .i64 f0,.int .i64 f1,.int .i64 f2,s_.2.2.2.1]),(35,.tuple #[.agg #[s_.2.2.2.2.1,s_.2.2.2.2.2.1,s_.2.2.2.2.2.2.1],s_.2.2.2.2.2.2.2.1]),(8,.pointer (some ⟨s_.2.2.2.2.2.2.2.2,0,none⟩)),(29,.tuple #[.agg #[s_.2.2.2.2.1,s_.2.2.2.2.2.1,s_.2.2.2.2.2.2.1],s_.2.2.2.2.2.2.2.1]),(36,.agg #[s_.2.2.2.2.1,s_.2.2.2.2.2.1,s_.2.2.2.2.2.2.1]),(37,s_.2.2.2.2.2.2.2.1)]) (fun s_ w'=>(w'.cell? ⟨g3,0,none⟩=some (.slice A0_0 l0_0.length c0_0)∧w'.cell? ⟨g3,1,none⟩=some (.slice A0_1 l0_1.length c0_1)∧w'.cell? ⟨g3,2,none⟩=some (.slice A0_2 l0_2.length c0_2)∧w'.cell? ⟨g5,0,none⟩=some (.int .i64 a2_0)∧w'.cell? ⟨g5,1,none⟩=some (.int .i64 a2_1)∧w'.cell? ⟨g5,2,none⟩=some (.int .i64 a2_2)∧w'.cell? ⟨g5,3,none⟩=some (.slice A2_3 l2_3.length c2_3))∧(∃ UV_ UO_:Nat→Prop,(∀ k_,UV_ k_→k_<w'.heap.size)∧(∀ k_,UO_ k_→k_<w'.heap.size)∧¬ UV_ s_.2.2.2.2.2.2.2.2∧¬ UO_ s_.2.2.2.2.2.2.2.2∧CardS w.heap.size w' UV_ s_.2.2.2.2.1 s_.2.2.2.2.2.1 s_.2.2.2.2.2.2.1 o1 m1 t1∧Kd.S k65 65 w' w.heap.size UO_ s_.2.2.2.2.2.2.2.1 x1)∧(w'.heap[s_.2.2.2.2.2.2.2.2]?=some (.cells #[.slice none 0 0,.slice none 0 0,.slice none 0 0] 35 (0,0)))∧(w.heap.size≤s_.2.2.2.2.2.2.2.2)∧(¬ g3=s_.2.2.2.2.2.2.2.2)∧(¬ g5=s_.2.2.2.2.2.2.2.2)∧(w'.heap[g3]?=some (.cells #[.slice A0_0 l0_0.length c0_0,.slice A0_1 l0_1.length c0_1,.slice A0_2 l0_2.length c0_2] 26 (0,0)))∧(w'.heap[g5]?=some (.cells #[.int .i64 a2_0,.int .i64 a2_1,.int .i64 a2_2,.slice A2_3 l2_3.length c2_3] 29 (0,0)))∧(Below w.heap.size w w')) ?_ ?_
 rotate_left
 ·intro hCont
  refine two_ (i:=1) (j:=9) (Ni:=some 31) (Nj:=some 8) #[Y,Y,Y,Y,U,U,U,U,U,U,U,U] #[Y,U,Y,Y,U,U,U,U,U,Y,U,U] rfl rfl rfl rfl (two_of HT_.out (by kernel_rfl)) (by decide) (by decide) (fun K hK=>?_) (fun K hK=>?_)
  ·skip
   refine goes_ Try.func7 (by kernel_rfl) rfl #[.agg #[.slice A0_0 l0_0.length c0_0,.slice A0_1 l0_1.length c0_1,.slice A0_2 l0_2.length c0_2]] (by rfl) rfl rfl (by (try simp only [List.map_toArray,List.map_cons,List.map_nil]);first|done|rfl) ?_
   with_reducible refine (to_card k 0 (Nat.zero_le _) (below_size HB.out) (cB R0.out HB.out) N0.out (cB R1.out HB.out) N1.out (cB R2.out HB.out) N2.out E3.out).mono ?_
   rintro e wT ⟨vT0,vT1,vT2,UT_,rfl,hb,i_,y_⟩;refine ⟨_,rfl,?_⟩;replace B3:=aM (bB B3.out hb);replace B5:=aM (bB B5.out hb);replace HB:=aM (bS HB.out hb);have CT_:=aM y_;clear hb i_ y_;refine hK.out _ _ ⟨cI B3.out 0,cI B3.out 1,cI B3.out 2,cI B5.out 0,cI B5.out 1,cI B5.out 2,cI B5.out 3⟩ (fun hHeld=>?_)
   clear hK K;refine norm_ (a':=?_) ?_ ?_;rotate_left
   ·show Act.put _ (some 31) _=_
    simp only [Act.put,sA,sZ,sS,i64_w,i32_w]
    rfl
   refine two_ (i:=4) (j:=9) (Ni:=some 34) (Nj:=some 8) #[Y,Y,Y,Y,Y,U,U,U,U,U,U,U] #[Y,Y,Y,Y,U,U,U,U,U,Y,U,U] rfl rfl rfl rfl (two_of HT_.out (by kernel_rfl)) (by decide) (by decide) (fun K hK=>?_) (fun K hK=>?_)
   ·skip
    refine goes_ Try.func8 (by kernel_rfl) rfl #[.agg #[.int .i64 a2_0,.int .i64 a2_1,.int .i64 a2_2,.slice A2_3 l2_3.length c2_3]] (by rfl) rfl rfl (by (try simp only [List.map_toArray,List.map_cons,List.map_nil]);first|done|rfl) ?_
    with_reducible refine (to_frame k 0 (Nat.zero_le _) (below_size HB.out) (cB R3.out HB.out) N3.out E4.out).mono ?_
    rintro e wF ⟨vF3,UF_,rfl,hb,i_,y_⟩;refine ⟨_,rfl,?_⟩;replace B3:=aM (bB B3.out hb);replace B5:=aM (bB B5.out hb);replace CT_:=aM (CT_.out.below hb);replace HB:=aM (bS HB.out hb);have CF_:=aM y_;clear hb i_ y_;refine hK.out _ _ ⟨cI B3.out 0,cI B3.out 1,cI B3.out 2,cI B5.out 0,cI B5.out 1,cI B5.out 2,cI B5.out 3⟩ (fun hHeld=>?_)
    clear hK K;refine norm_ (a':=?_) ?_ ?_;rotate_left
    ·show Act.put _ (some 34) _=_
     simp only [Act.put,sA,sZ,sS,i64_w,i32_w]
     rfl
    refine two_ (i:=5) (j:=9) (Ni:=some 35) (Nj:=some 8) #[Y,Y,Y,Y,Y,Y,U,U,U,U,U,U] #[Y,Y,Y,Y,Y,U,U,U,U,Y,U,U] rfl rfl rfl rfl (two_of HT_.out (by kernel_rfl)) (by decide) (by decide) (fun K hK=>?_) (fun K hK=>?_)
    ·skip
     refine goes_ Try.func6 (by kernel_rfl) rfl #[.agg #[vT0,vT1,vT2],.int .i64 a1,.agg #[.int .i64 f0,.int .i64 f1,.int .i64 f2,vF3]] (by rfl) rfl rfl (by (try simp only [List.map_toArray,List.map_cons,List.map_nil]);first|done|rfl) ?_
     with_reducible refine (spec_pass k (0) (a1:=a1) (Nat.zero_le _) (below_size HB.out) CT_.out CF_.out E5.out).mono ?_
     rintro e wP ⟨vP0,vP1,vP2,vP3,UP_,UQ_,rfl,hb,i1_,i2_,d_,y1_,y2_⟩;refine ⟨_,rfl,?_⟩;replace B3:=aM (bB B3.out hb);replace B5:=aM (bB B5.out hb);replace CT_:=aM (CT_.out.below hb);replace CF_:=aM (kB CF_.out hb);replace HB:=aM (bS HB.out hb);have CP_:=aM y1_;have CQ_:=aM y2_;have IP_:=aM (show ∀ k_,UP_ k_→k_<wP.heap.size from fun k_ h_=>(i1_ k_ h_).2)
     have IQ_:=aM (show ∀ k_,UQ_ k_→k_<wP.heap.size from fun k_ h_=>(i2_ k_ h_).2)
     clear hb i1_ i2_ d_ y1_ y2_;refine hK.out _ _ ⟨cI B3.out 0,cI B3.out 1,cI B3.out 2,cI B5.out 0,cI B5.out 1,cI B5.out 2,cI B5.out 3⟩ (fun hHeld=>?_)
     clear hK K;refine norm_ (a':=?_) ?_ ?_;rotate_left
     ·show Act.put _ (some 35) _=_
      simp only [Act.put,sA,sZ,sS,i64_w,i32_w]
      rfl
     refine pure_ (i:=6) (N:=some 29) (v:=?_) (a':=?_) #[Y,Y,Y,Y,Y,Y,Y,U,U,U,U,U] rfl rfl (any_of HT_.out (by kernel_rfl)) (fun _ _ _ h=>h) (Or.inl ⟨by rfl,?_⟩) ?_ ?_
     rotate_left
     ·intro w'
      go_simp
      with_reducible rfl
     rotate_left
     ·simp only [Act.put,sA,sZ,sS,i64_w,i32_w]
      rfl
     refine pure_ (i:=7) (N:=some 36) (v:=?_) (a':=?_) #[Y,Y,Y,Y,Y,Y,Y,Y,U,U,U,U] rfl rfl (any_of HT_.out (by kernel_rfl)) (fun _ _ _ h=>h) (Or.inl ⟨by rfl,?_⟩) ?_ ?_
     rotate_left
     ·intro w'
      go_simp
      with_reducible rfl
     rotate_left
     ·simp only [Act.put,sA,sZ,sS,i64_w,i32_w]
      rfl
     refine pure_ (i:=8) (N:=some 37) (v:=?_) (a':=?_) #[Y,Y,Y,Y,Y,Y,Y,Y,Y,U,U,U] rfl rfl (any_of HT_.out (by kernel_rfl)) (fun _ _ _ h=>h) (Or.inl ⟨by rfl,?_⟩) ?_ ?_
     rotate_left
     ·intro w'
      go_simp
      with_reducible rfl
     rotate_left
     ·simp only [Act.put,sA,sZ,sS,i64_w,i32_w]
      rfl
     refine one_ (i:=9) (N:=some 8) #[Y,Y,Y,Y,Y,Y,Y,Y,Y,Y,U,U] rfl rfl (one_of HT_.out (by kernel_rfl)) (by decide) (fun K hK=>?_)
     refine box_step ?hg (N:=8) ?hd (cs:=#[.slice none 0 0,.slice none 0 0,.slice none 0 0]) (t:=35) ?hr ?_;(case hd=>rfl);(case hg=>rfl);(case hr=>first|(go_simp;done)|(go_simp;rfl))
     intro g8 hg wB hbox hb;have GE8:=aM (show w.heap.size≤g8 by rw [hg];exact below_size HB.out)
     have X3_8:=aM (show ¬ g3=g8 by have:=blk_lt B3.out;rw [hg];omega)
     have X5_8:=aM (show ¬ g5=g8 by have:=blk_lt B5.out;rw [hg];omega)
     have NP_:=aM (show ¬ UP_ g8 from fun h_=>by have:=IP_.out g8 h_;have:=hg;omega)
     replace IP_:=aM (show ∀ k_,UP_ k_→k_<wB.heap.size from fun k_ h_=>Nat.lt_of_lt_of_le (IP_.out k_ h_) (below_size hb))
     have NQ_:=aM (show ¬ UQ_ g8 from fun h_=>by have:=IQ_.out g8 h_;have:=hg;omega)
     replace IQ_:=aM (show ∀ k_,UQ_ k_→k_<wB.heap.size from fun k_ h_=>Nat.lt_of_lt_of_le (IQ_.out k_ h_) (below_size hb))
     replace B3:=aM (bB B3.out hb);replace B5:=aM (bB B5.out hb);replace CT_:=aM (CT_.out.below hb);replace CF_:=aM (kB CF_.out hb);replace CP_:=aM (CP_.out.below hb);replace CQ_:=aM (Kd.S_below CQ_.out hb);replace HB:=aM (bS HB.out hb);have B8:=aM hbox;clear hb hbox hg;refine hK.out _ _ ⟨cI B3.out 0,cI B3.out 1,cI B3.out 2,cI B5.out 0,cI B5.out 1,cI B5.out 2,cI B5.out 3⟩ (fun hHeld=>?_)
     clear hK K;refine norm_ (a':=?_) ?_ ?_;rotate_left
     ·show Act.put _ (some 8) _=_
      simp only [Act.put,sA,sZ,sS,i64_w,i32_w]
      rfl
     exact norm_ (by simp only [putAll,Act.put,sA,sZ,sS]) (hCont (vT0,vT1,vT2,vF3,vP0,vP1,vP2,vP3,g8) _ ⟨hHeld,⟨UP_,UQ_,IP_.out,IQ_.out,NP_.out,NQ_.out,CP_.out,CQ_.out⟩,B8.out,GE8.out,X3_8.out,X5_8.out,B3.out,B5.out,HB.out⟩)
    ·skip
     refine box_step ?hg (N:=8) ?hd (cs:=#[.slice none 0 0,.slice none 0 0,.slice none 0 0]) (t:=35) ?hr ?_;(case hd=>rfl);(case hg=>rfl);(case hr=>first|(go_simp;done)|(go_simp;rfl))
     intro g8 hg wB hbox hb;have GE8:=aM (show w.heap.size≤g8 by rw [hg];exact below_size HB.out)
     have X3_8:=aM (show ¬ g3=g8 by have:=blk_lt B3.out;rw [hg];omega)
     have X5_8:=aM (show ¬ g5=g8 by have:=blk_lt B5.out;rw [hg];omega)
     replace B3:=aM (bB B3.out hb);replace B5:=aM (bB B5.out hb);replace CT_:=aM (CT_.out.below hb);replace CF_:=aM (kB CF_.out hb);replace HB:=aM (bS HB.out hb);have B8:=aM hbox;clear hb hbox hg;refine hK.out _ _ ⟨cI B3.out 0,cI B3.out 1,cI B3.out 2,cI B5.out 0,cI B5.out 1,cI B5.out 2,cI B5.out 3⟩ (fun hHeld=>?_)
     clear hK K;refine norm_ (a':=?_) ?_ ?_;rotate_left
     ·show Act.put _ (some 8) _=_
      simp only [Act.put,sA,sZ,sS,i64_w,i32_w]
      rfl
     refine one_ (i:=5) (N:=some 35) #[Y,Y,Y,Y,Y,Y,U,U,U,Y,U,U] rfl rfl (one_of HT_.out (by kernel_rfl)) (by decide) (fun K hK=>?_)
     refine goes_ Try.func6 (by kernel_rfl) rfl #[.agg #[vT0,vT1,vT2],.int .i64 a1,.agg #[.int .i64 f0,.int .i64 f1,.int .i64 f2,vF3]] (by rfl) rfl rfl (by (try simp only [List.map_toArray,List.map_cons,List.map_nil]);first|done|rfl) ?_
     with_reducible refine (spec_pass k (g8+1) (a1:=a1) (Nat.succ_le_of_lt (blk_lt B8.out)) (below_size HB.out) CT_.out CF_.out E5.out).mono ?_
     rintro e wP ⟨vP0,vP1,vP2,vP3,UP_,UQ_,rfl,hb,i1_,i2_,d_,y1_,y2_⟩;refine ⟨_,rfl,?_⟩;replace B3:=aM (bB B3.out hb);replace B5:=aM (bB B5.out hb);replace B8:=aM (bB B8.out hb);replace CT_:=aM (CT_.out.below hb);replace CF_:=aM (kB CF_.out hb);replace HB:=aM (bS HB.out hb);have CP_:=aM y1_;have CQ_:=aM y2_;have IP_:=aM (show ∀ k_,UP_ k_→k_<wP.heap.size from fun k_ h_=>(i1_ k_ h_).2)
     have IQ_:=aM (show ∀ k_,UQ_ k_→k_<wP.heap.size from fun k_ h_=>(i2_ k_ h_).2)
     have NP_:=aM (show ¬ UP_ g8 from fun h_=>by have:=(i1_ g8 h_).1;omega)
     have NQ_:=aM (show ¬ UQ_ g8 from fun h_=>by have:=(i2_ g8 h_).1;omega)
     clear hb i1_ i2_ d_ y1_ y2_;refine hK.out _ _ ⟨cI B3.out 0,cI B3.out 1,cI B3.out 2,cI B5.out 0,cI B5.out 1,cI B5.out 2,cI B5.out 3⟩ (fun hHeld=>?_)
     clear hK K;refine norm_ (a':=?_) ?_ ?_;rotate_left
     ·show Act.put _ (some 35) _=_
      simp only [Act.put,sA,sZ,sS,i64_w,i32_w]
      rfl
     refine pure_ (i:=6) (N:=some 29) (v:=?_) (a':=?_) #[Y,Y,Y,Y,Y,Y,Y,U,U,Y,U,U] rfl rfl (any_of HT_.out (by kernel_rfl)) (fun _ _ _ h=>h) (Or.inl ⟨by rfl,?_⟩) ?_ ?_
     rotate_left
     ·intro w'
      go_simp
      with_reducible rfl
     rotate_left
     ·simp only [Act.put,sA,sZ,sS,i64_w,i32_w]
      rfl
     refine pure_ (i:=7) (N:=some 36) (v:=?_) (a':=?_) #[Y,Y,Y,Y,Y,Y,Y,Y,U,Y,U,U] rfl rfl (any_of HT_.out (by kernel_rfl)) (fun _ _ _ h=>h) (Or.inl ⟨by rfl,?_⟩) ?_ ?_
     rotate_left
     ·intro w'
      go_simp
      with_reducible rfl
     rotate_left
     ·simp only [Act.put,sA,sZ,sS,i64_w,i32_w]
      rfl
     refine pure_ (i:=8) (N:=some 37) (v:=?_) (a':=?_) #[Y,Y,Y,Y,Y,Y,Y,Y,Y,Y,U,U] rfl rfl (any_of HT_.out (by kernel_rfl)) (fun _ _ _ h=>h) (Or.inl ⟨by rfl,?_⟩) ?_ ?_
     rotate_left
     ·intro w'
      go_simp
      with_reducible rfl
     rotate_left
     ·simp only [Act.put,sA,sZ,sS,i64_w,i32_w]
      rfl
     exact norm_ (by simp only [putAll,Act.put,sA,sZ,sS]) (hCont (vT0,vT1,vT2,vF3,vP0,vP1,vP2,vP3,g8) _ ⟨hHeld,⟨UP_,UQ_,IP_.out,IQ_.out,NP_.out,NQ_.out,CP_.out,CQ_.out⟩,B8.out,GE8.out,X3_8.out,X5_8.out,B3.out,B5.out,HB.out⟩)
   ·skip
    refine box_step ?hg (N:=8) ?hd (cs:=#[.slice none 0 0,.slice none 0 0,.slice none 0 0]) (t:=35) ?hr ?_;(case hd=>rfl);(case hg=>rfl);(case hr=>first|(go_simp;done)|(go_simp;rfl))
    intro g8 hg wB hbox hb;have GE8:=aM (show w.heap.size≤g8 by rw [hg];exact below_size HB.out)
    have X3_8:=aM (show ¬ g3=g8 by have:=blk_lt B3.out;rw [hg];omega)
    have X5_8:=aM (show ¬ g5=g8 by have:=blk_lt B5.out;rw [hg];omega)
    replace B3:=aM (bB B3.out hb);replace B5:=aM (bB B5.out hb);replace CT_:=aM (CT_.out.below hb);replace HB:=aM (bS HB.out hb);have B8:=aM hbox;clear hb hbox hg;refine hK.out _ _ ⟨cI B3.out 0,cI B3.out 1,cI B3.out 2,cI B5.out 0,cI B5.out 1,cI B5.out 2,cI B5.out 3⟩ (fun hHeld=>?_)
    clear hK K;refine norm_ (a':=?_) ?_ ?_;rotate_left
    ·show Act.put _ (some 8) _=_
     simp only [Act.put,sA,sZ,sS,i64_w,i32_w]
     rfl
    refine one_ (i:=4) (N:=some 34) #[Y,Y,Y,Y,Y,U,U,U,U,Y,U,U] rfl rfl (one_of HT_.out (by kernel_rfl)) (by decide) (fun K hK=>?_)
    refine goes_ Try.func8 (by kernel_rfl) rfl #[.agg #[.int .i64 a2_0,.int .i64 a2_1,.int .i64 a2_2,.slice A2_3 l2_3.length c2_3]] (by rfl) rfl rfl (by (try simp only [List.map_toArray,List.map_cons,List.map_nil]);first|done|rfl) ?_
    with_reducible refine (to_frame k 0 (Nat.zero_le _) (below_size HB.out) (cB R3.out HB.out) N3.out E4.out).mono ?_
    rintro e wF ⟨vF3,UF_,rfl,hb,i_,y_⟩;refine ⟨_,rfl,?_⟩;replace B3:=aM (bB B3.out hb);replace B5:=aM (bB B5.out hb);replace B8:=aM (bB B8.out hb);replace CT_:=aM (CT_.out.below hb);replace HB:=aM (bS HB.out hb);have CF_:=aM y_;clear hb i_ y_;refine hK.out _ _ ⟨cI B3.out 0,cI B3.out 1,cI B3.out 2,cI B5.out 0,cI B5.out 1,cI B5.out 2,cI B5.out 3⟩ (fun hHeld=>?_)
    clear hK K;refine norm_ (a':=?_) ?_ ?_;rotate_left
    ·show Act.put _ (some 34) _=_
     simp only [Act.put,sA,sZ,sS,i64_w,i32_w]
     rfl
    refine one_ (i:=5) (N:=some 35) #[Y,Y,Y,Y,Y,Y,U,U,U,Y,U,U] rfl rfl (one_of HT_.out (by kernel_rfl)) (by decide) (fun K hK=>?_)
    refine goes_ Try.func6 (by kernel_rfl) rfl #[.agg #[vT0,vT1,vT2],.int .i64 a1,.agg #[.int .i64 f0,.int .i64 f1,.int .i64 f2,vF3]] (by rfl) rfl rfl (by (try simp only [List.map_toArray,List.map_cons,List.map_nil]);first|done|rfl) ?_
    with_reducible refine (spec_pass k (g8+1) (a1:=a1) (Nat.succ_le_of_lt (blk_lt B8.out)) (below_size HB.out) CT_.out CF_.out E5.out).mono ?_
    rintro e wP ⟨vP0,vP1,vP2,vP3,UP_,UQ_,rfl,hb,i1_,i2_,d_,y1_,y2_⟩;refine ⟨_,rfl,?_⟩;replace B3:=aM (bB B3.out hb);replace B5:=aM (bB B5.out hb);replace B8:=aM (bB B8.out hb);replace CT_:=aM (CT_.out.below hb);replace CF_:=aM (kB CF_.out hb);replace HB:=aM (bS HB.out hb);have CP_:=aM y1_;have CQ_:=aM y2_;have IP_:=aM (show ∀ k_,UP_ k_→k_<wP.heap.size from fun k_ h_=>(i1_ k_ h_).2)
    have IQ_:=aM (show ∀ k_,UQ_ k_→k_<wP.heap.size from fun k_ h_=>(i2_ k_ h_).2)
    have NP_:=aM (show ¬ UP_ g8 from fun h_=>by have:=(i1_ g8 h_).1;omega)
    have NQ_:=aM (show ¬ UQ_ g8 from fun h_=>by have:=(i2_ g8 h_).1;omega)
    clear hb i1_ i2_ d_ y1_ y2_;refine hK.out _ _ ⟨cI B3.out 0,cI B3.out 1,cI B3.out 2,cI B5.out 0,cI B5.out 1,cI B5.out 2,cI B5.out 3⟩ (fun hHeld=>?_)
    clear hK K;refine norm_ (a':=?_) ?_ ?_;rotate_left
    ·show Act.put _ (some 35) _=_
     simp only [Act.put,sA,sZ,sS,i64_w,i32_w]
     rfl
    refine pure_ (i:=6) (N:=some 29) (v:=?_) (a':=?_) #[Y,Y,Y,Y,Y,Y,Y,U,U,Y,U,U] rfl rfl (any_of HT_.out (by kernel_rfl)) (fun _ _ _ h=>h) (Or.inl ⟨by rfl,?_⟩) ?_ ?_
    rotate_left
    ·intro w'
     go_simp
     with_reducible rfl
    rotate_left
    ·simp only [Act.put,sA,sZ,sS,i64_w,i32_w]
     rfl
    refine pure_ (i:=7) (N:=some 36) (v:=?_) (a':=?_) #[Y,Y,Y,Y,Y,Y,Y,Y,U,Y,U,U] rfl rfl (any_of HT_.out (by kernel_rfl)) (fun _ _ _ h=>h) (Or.inl ⟨by rfl,?_⟩) ?_ ?_
    rotate_left
    ·intro w'
     go_simp
     with_reducible rfl
    rotate_left
    ·simp only [Act.put,sA,sZ,sS,i64_w,i32_w]
     rfl
    refine pure_ (i:=8) (N:=some 37) (v:=?_) (a':=?_) #[Y,Y,Y,Y,Y,Y,Y,Y,Y,Y,U,U] rfl rfl (any_of HT_.out (by kernel_rfl)) (fun _ _ _ h=>h) (Or.inl ⟨by rfl,?_⟩) ?_ ?_
    rotate_left
    ·intro w'
     go_simp
     with_reducible rfl
    rotate_left
    ·simp only [Act.put,sA,sZ,sS,i64_w,i32_w]
     rfl
    exact norm_ (by simp only [putAll,Act.put,sA,sZ,sS]) (hCont (vT0,vT1,vT2,vF3,vP0,vP1,vP2,vP3,g8) _ ⟨hHeld,⟨UP_,UQ_,IP_.out,IQ_.out,NP_.out,NQ_.out,CP_.out,CQ_.out⟩,B8.out,GE8.out,X3_8.out,X5_8.out,B3.out,B5.out,HB.out⟩)
  ·skip
   refine box_step ?hg (N:=8) ?hd (cs:=#[.slice none 0 0,.slice none 0 0,.slice none 0 0]) (t:=35) ?hr ?_;(case hd=>rfl);(case hg=>rfl);(case hr=>first|(go_simp;done)|(go_simp;rfl))
   intro g8 hg wB hbox hb;have GE8:=aM (show w.heap.size≤g8 by rw [hg];exact below_size HB.out)
   have X3_8:=aM (show ¬ g3=g8 by have:=blk_lt B3.out;rw [hg];omega)
   have X5_8:=aM (show ¬ g5=g8 by have:=blk_lt B5.out;rw [hg];omega)
   replace B3:=aM (bB B3.out hb);replace B5:=aM (bB B5.out hb);replace HB:=aM (bS HB.out hb);have B8:=aM hbox;clear hb hbox hg;refine hK.out _ _ ⟨cI B3.out 0,cI B3.out 1,cI B3.out 2,cI B5.out 0,cI B5.out 1,cI B5.out 2,cI B5.out 3⟩ (fun hHeld=>?_)
   clear hK K;refine norm_ (a':=?_) ?_ ?_;rotate_left
   ·show Act.put _ (some 8) _=_
    simp only [Act.put,sA,sZ,sS,i64_w,i32_w]
    rfl
   refine one_ (i:=1) (N:=some 31) #[Y,Y,Y,Y,U,U,U,U,U,Y,U,U] rfl rfl (one_of HT_.out (by kernel_rfl)) (by decide) (fun K hK=>?_)
   refine goes_ Try.func7 (by kernel_rfl) rfl #[.agg #[.slice A0_0 l0_0.length c0_0,.slice A0_1 l0_1.length c0_1,.slice A0_2 l0_2.length c0_2]] (by rfl) rfl rfl (by (try simp only [List.map_toArray,List.map_cons,List.map_nil]);first|done|rfl) ?_
   with_reducible refine (to_card k 0 (Nat.zero_le _) (below_size HB.out) (cB R0.out HB.out) N0.out (cB R1.out HB.out) N1.out (cB R2.out HB.out) N2.out E3.out).mono ?_
   rintro e wT ⟨vT0,vT1,vT2,UT_,rfl,hb,i_,y_⟩;refine ⟨_,rfl,?_⟩;replace B3:=aM (bB B3.out hb);replace B5:=aM (bB B5.out hb);replace B8:=aM (bB B8.out hb);replace HB:=aM (bS HB.out hb);have CT_:=aM y_;clear hb i_ y_;refine hK.out _ _ ⟨cI B3.out 0,cI B3.out 1,cI B3.out 2,cI B5.out 0,cI B5.out 1,cI B5.out 2,cI B5.out 3⟩ (fun hHeld=>?_)
   clear hK K;refine norm_ (a':=?_) ?_ ?_;rotate_left
   ·show Act.put _ (some 31) _=_
    simp only [Act.put,sA,sZ,sS,i64_w,i32_w]
    rfl
   refine one_ (i:=4) (N:=some 34) #[Y,Y,Y,Y,Y,U,U,U,U,Y,U,U] rfl rfl (one_of HT_.out (by kernel_rfl)) (by decide) (fun K hK=>?_)
   refine goes_ Try.func8 (by kernel_rfl) rfl #[.agg #[.int .i64 a2_0,.int .i64 a2_1,.int .i64 a2_2,.slice A2_3 l2_3.length c2_3]] (by rfl) rfl rfl (by (try simp only [List.map_toArray,List.map_cons,List.map_nil]);first|done|rfl) ?_
   with_reducible refine (to_frame k 0 (Nat.zero_le _) (below_size HB.out) (cB R3.out HB.out) N3.out E4.out).mono ?_
   rintro e wF ⟨vF3,UF_,rfl,hb,i_,y_⟩;refine ⟨_,rfl,?_⟩;replace B3:=aM (bB B3.out hb);replace B5:=aM (bB B5.out hb);replace B8:=aM (bB B8.out hb);replace CT_:=aM (CT_.out.below hb);replace HB:=aM (bS HB.out hb);have CF_:=aM y_;clear hb i_ y_;refine hK.out _ _ ⟨cI B3.out 0,cI B3.out 1,cI B3.out 2,cI B5.out 0,cI B5.out 1,cI B5.out 2,cI B5.out 3⟩ (fun hHeld=>?_)
   clear hK K;refine norm_ (a':=?_) ?_ ?_;rotate_left
   ·show Act.put _ (some 34) _=_
    simp only [Act.put,sA,sZ,sS,i64_w,i32_w]
    rfl
   refine one_ (i:=5) (N:=some 35) #[Y,Y,Y,Y,Y,Y,U,U,U,Y,U,U] rfl rfl (one_of HT_.out (by kernel_rfl)) (by decide) (fun K hK=>?_)
   refine goes_ Try.func6 (by kernel_rfl) rfl #[.agg #[vT0,vT1,vT2],.int .i64 a1,.agg #[.int .i64 f0,.int .i64 f1,.int .i64 f2,vF3]] (by rfl) rfl rfl (by (try simp only [List.map_toArray,List.map_cons,List.map_nil]);first|done|rfl) ?_
   with_reducible refine (spec_pass k (g8+1) (a1:=a1) (Nat.succ_le_of_lt (blk_lt B8.out)) (below_size HB.out) CT_.out CF_.out E5.out).mono ?_
   rintro e wP ⟨vP0,vP1,vP2,vP3,UP_,UQ_,rfl,hb,i1_,i2_,d_,y1_,y2_⟩;refine ⟨_,rfl,?_⟩;replace B3:=aM (bB B3.out hb);replace B5:=aM (bB B5.out hb);replace B8:=aM (bB B8.out hb);replace CT_:=aM (CT_.out.below hb);replace CF_:=aM (kB CF_.out hb);replace HB:=aM (bS HB.out hb);have CP_:=aM y1_;have CQ_:=aM y2_;have IP_:=aM (show ∀ k_,UP_ k_→k_<wP.heap.size from fun k_ h_=>(i1_ k_ h_).2)
   have IQ_:=aM (show ∀ k_,UQ_ k_→k_<wP.heap.size from fun k_ h_=>(i2_ k_ h_).2)
   have NP_:=aM (show ¬ UP_ g8 from fun h_=>by have:=(i1_ g8 h_).1;omega)
   have NQ_:=aM (show ¬ UQ_ g8 from fun h_=>by have:=(i2_ g8 h_).1;omega)
   clear hb i1_ i2_ d_ y1_ y2_;refine hK.out _ _ ⟨cI B3.out 0,cI B3.out 1,cI B3.out 2,cI B5.out 0,cI B5.out 1,cI B5.out 2,cI B5.out 3⟩ (fun hHeld=>?_)
   clear hK K;refine norm_ (a':=?_) ?_ ?_;rotate_left
   ·show Act.put _ (some 35) _=_
    simp only [Act.put,sA,sZ,sS,i64_w,i32_w]
    rfl
   refine pure_ (i:=6) (N:=some 29) (v:=?_) (a':=?_) #[Y,Y,Y,Y,Y,Y,Y,U,U,Y,U,U] rfl rfl (any_of HT_.out (by kernel_rfl)) (fun _ _ _ h=>h) (Or.inl ⟨by rfl,?_⟩) ?_ ?_
   rotate_left
   ·intro w'
    go_simp
    with_reducible rfl
   rotate_left
   ·simp only [Act.put,sA,sZ,sS,i64_w,i32_w]
    rfl
   refine pure_ (i:=7) (N:=some 36) (v:=?_) (a':=?_) #[Y,Y,Y,Y,Y,Y,Y,Y,U,Y,U,U] rfl rfl (any_of HT_.out (by kernel_rfl)) (fun _ _ _ h=>h) (Or.inl ⟨by rfl,?_⟩) ?_ ?_
   rotate_left
   ·intro w'
    go_simp
    with_reducible rfl
   rotate_left
   ·simp only [Act.put,sA,sZ,sS,i64_w,i32_w]
    rfl
   refine pure_ (i:=8) (N:=some 37) (v:=?_) (a':=?_) #[Y,Y,Y,Y,Y,Y,Y,Y,Y,Y,U,U] rfl rfl (any_of HT_.out (by kernel_rfl)) (fun _ _ _ h=>h) (Or.inl ⟨by rfl,?_⟩) ?_ ?_
   rotate_left
   ·intro w'
    go_simp
    with_reducible rfl
   rotate_left
   ·simp only [Act.put,sA,sZ,sS,i64_w,i32_w]
    rfl
   exact norm_ (by simp only [putAll,Act.put,sA,sZ,sS]) (hCont (vT0,vT1,vT2,vF3,vP0,vP1,vP2,vP3,g8) _ ⟨hHeld,⟨UP_,UQ_,IP_.out,IQ_.out,NP_.out,NQ_.out,CP_.out,CQ_.out⟩,B8.out,GE8.out,X3_8.out,X5_8.out,B3.out,B5.out,HB.out⟩)
 rintro ⟨vT0,vT1,vT2,vF3,vP0,vP1,vP2,vP3,g8⟩ wj ⟨hS_,⟨UV,UOV,i1_,i2_,n1_,n2_,y1_,y2_⟩,hB_,hG_,x3_,x5_,b3_,b5_,hb⟩;dsimp only at i1_ i2_ n1_ n2_ y1_ y2_ hB_ hG_ x3_ x5_;replace B3:=aM b3_;have X3_8:=aM x3_;replace B5:=aM b5_;have X5_8:=aM x5_;replace HB:=aM hb;have B8:=aM hB_;have GE8:=aM hG_;have CV:=aM y1_;have IV:=aM (show ∀ k_,UV k_→0≤k_∧k_<wj.heap.size from fun k_ h_=>⟨Nat.zero_le _,i1_ k_ h_⟩)
 have YV_8:=aM n1_;have COV:=aM y2_;have IOV:=aM (show ∀ k_,UOV k_→0≤k_∧k_<wj.heap.size from fun k_ h_=>⟨Nat.zero_le _,i2_ k_ h_⟩)
 have YOV_8:=aM n2_;clear hB_ hG_ hb y1_ y2_ i1_ i2_ n1_ n2_ b3_ b5_;obtain ⟨VA0,Vn0,Vc0,VA1,Vn1,Vc1,VA2,Vn2,Vc2,f0_,f1_,f2_⟩:=CV.out.forms;subst f0_;subst f1_;subst f2_;obtain ⟨OVA,OVn,OVc,f0_⟩:=S_form1 COV.out;subst f0_;have hHeld:wj.cell? ⟨g3,0,none⟩=some (.slice A0_0 l0_0.length c0_0)∧wj.cell? ⟨g3,1,none⟩=some (.slice A0_1 l0_1.length c0_1)∧wj.cell? ⟨g3,2,none⟩=some (.slice A0_2 l0_2.length c0_2)∧wj.cell? ⟨g5,0,none⟩=some (.int .i64 a2_0)∧wj.cell? ⟨g5,1,none⟩=some (.int .i64 a2_1)∧wj.cell? ⟨g5,2,none⟩=some (.int .i64 a2_2)∧wj.cell? ⟨g5,3,none⟩=some (.slice A2_3 l2_3.length c2_3):=hS_;refine norm_ (a':=?_) ?_ ?_;rotate_left
 ·simp only [putAll,Act.put,sA,sZ,sS]
  rfl
 refine one_ (i:=10) (N:=none) #[Y,Y,Y,Y,Y,Y,Y,Y,Y,Y,Y,U] rfl rfl (one_of HT_.out (by kernel_rfl)) (by decide) (fun K hK=>?_)
 have hs_0:wj.cell? ⟨g8,0,none⟩=some (.slice none 0 0):=cI B8.out 0;have hfs_0:=bF B8.out 0;have hs_1:wj.cell? ⟨g8,1,none⟩=some (.slice none 0 0):=cI B8.out 1;have hfs_1:=bF B8.out 1;have hs_2:wj.cell? ⟨g8,2,none⟩=some (.slice none 0 0):=cI B8.out 2;have hfs_2:=bF B8.out 2;have xx3_8:=X3_8.out;have yy3_8:=Ne.symm X3_8.out;have xx5_8:=X5_8.out;have yy5_8:=Ne.symm X5_8.out;refine skip_ (w1:=?_) (by rfl) rfl ?_ ?_
 rotate_left
 ·go_simp
  rfl
 refine hK.out _ _ ⟨(bC (blk_kept B3.out (fill3_kept wj g8 (.slice VA0 Vn0 Vc0) (.slice VA1 Vn1 Vc1) (.slice VA2 Vn2 Vc2)) X3_8.out) 0).trans rfl,(bC (blk_kept B3.out (fill3_kept wj g8 (.slice VA0 Vn0 Vc0) (.slice VA1 Vn1 Vc1) (.slice VA2 Vn2 Vc2)) X3_8.out) 1).trans rfl,(bC (blk_kept B3.out (fill3_kept wj g8 (.slice VA0 Vn0 Vc0) (.slice VA1 Vn1 Vc1) (.slice VA2 Vn2 Vc2)) X3_8.out) 2).trans rfl,(bC (blk_kept B5.out (fill3_kept wj g8 (.slice VA0 Vn0 Vc0) (.slice VA1 Vn1 Vc1) (.slice VA2 Vn2 Vc2)) X5_8.out) 0).trans rfl,(bC (blk_kept B5.out (fill3_kept wj g8 (.slice VA0 Vn0 Vc0) (.slice VA1 Vn1 Vc1) (.slice VA2 Vn2 Vc2)) X5_8.out) 1).trans rfl,(bC (blk_kept B5.out (fill3_kept wj g8 (.slice VA0 Vn0 Vc0) (.slice VA1 Vn1 Vc1) (.slice VA2 Vn2 Vc2)) X5_8.out) 2).trans rfl,(bC (blk_kept B5.out (fill3_kept wj g8 (.slice VA0 Vn0 Vc0) (.slice VA1 Vn1 Vc1) (.slice VA2 Vn2 Vc2)) X5_8.out) 3).trans rfl⟩ (fun hHeld=>?_)
 clear hK K;refine pure_ (i:=11) (N:=some 9) (v:=?_) (a':=?_) #[Y,Y,Y,Y,Y,Y,Y,Y,Y,Y,Y,Y] rfl rfl (any_of HT_.out (by kernel_rfl)) (fun _ _ _ h=>h) (Or.inl ⟨by rfl,?_⟩) ?_ ?_
 rotate_left
 ·intro w'
  go_simp
  with_reducible rfl
 rotate_left
 ·simp only [Act.put,sA,sZ,sS,i64_w,i32_w]
  rfl
 refine done_ (done_of HT_.out (by kernel_rfl)) ?_
 have K3:=aM (show g3<wj.heap.size from blk_lt B3.out);have K5:=aM (show g5<wj.heap.size from blk_lt B5.out);have K8:=aM (show g8<wj.heap.size from blk_lt B8.out);have ME:=aM (Nat.le_refl wj.heap.size);have zj_3_0:wj.cell? ⟨g3,0,none⟩=some (.slice A0_0 l0_0.length c0_0):=cI B3.out 0;have zj_3_1:wj.cell? ⟨g3,1,none⟩=some (.slice A0_1 l0_1.length c0_1):=cI B3.out 1;have zj_3_2:wj.cell? ⟨g3,2,none⟩=some (.slice A0_2 l0_2.length c0_2):=cI B3.out 2;have zj_8_0:wj.cell? ⟨g8,0,none⟩=some (.slice none 0 0):=cI B8.out 0;have zj_8_1:wj.cell? ⟨g8,1,none⟩=some (.slice none 0 0):=cI B8.out 1;have zj_8_2:wj.cell? ⟨g8,2,none⟩=some (.slice none 0 0):=cI B8.out 2
 try go_wp2_with (first|((with_reducible refine gate_callee (f:=7) rfl ?_);refine goesL_ (some 39) rfl rfl Try.func7 (by kernel_rfl) rfl #[.agg #[.slice A0_0 l0_0.length c0_0,.slice A0_1 l0_1.length c0_1,.slice A0_2 l0_2.length c0_2]] rfl (by (try simp only [List.map_toArray,List.map_cons,List.map_nil]);first|done|rfl) ?_;replace B3:=aM (blk_kept B3.out (fill3_kept wj g8 (.slice VA0 Vn0 Vc0) (.slice VA1 Vn1 Vc1) (.slice VA2 Vn2 Vc2)) X3_8.out);replace B5:=aM (blk_kept B5.out (fill3_kept wj g8 (.slice VA0 Vn0 Vc0) (.slice VA1 Vn1 Vc1) (.slice VA2 Vn2 Vc2)) X5_8.out);replace CV:=aM (CV.out.kept (fill3_kept wj g8 (.slice VA0 Vn0 Vc0) (.slice VA1 Vn1 Vc1) (.slice VA2 Vn2 Vc2)) (fun k_ h1_ h2_=>by subst h2_;exact YV_8.out h1_));replace COV:=aM (S_stays COV.out (fill3_kept wj g8 (.slice VA0 Vn0 Vc0) (.slice VA1 Vn1 Vc1) (.slice VA2 Vn2 Vc2)) (fun k_ h1_ h2_=>by subst h2_;exact YOV_8.out h1_));replace HB:=aM (fill3_below HB.out GE8.out (.slice VA0 Vn0 Vc0) (.slice VA1 Vn1 Vc1) (.slice VA2 Vn2 Vc2));replace B8:=aM (fill3_box B8.out (.slice VA0 Vn0 Vc0) (.slice VA1 Vn1 Vc1) (.slice VA2 Vn2 Vc2));replace ME:=aM (Nat.le_trans ME.out (fill3_kept wj g8 (.slice VA0 Vn0 Vc0) (.slice VA1 Vn1 Vc1) (.slice VA2 Vn2 Vc2)).1);(with_reducible refine (to_card k (wj.heap.size) (ME.out) (below_size HB.out) (cB R0.out HB.out) N0.out (cB R1.out HB.out) N1.out (cB R2.out HB.out) N2.out E3.out).mono ?_);rintro e w6 ⟨u0,u1,u2,UX,rfl,hb,i_,y_⟩;refine ⟨_,rfl,?_⟩;replace B3:=aM (bB B3.out hb);replace B5:=aM (bB B5.out hb);replace B8:=aM (bB B8.out hb);replace CV:=aM (CV.out.below hb);replace COV:=aM (Kd.S_below COV.out hb);replace HB:=aM (bS HB.out hb);replace ME:=aM (Nat.le_trans ME.out (below_size hb));have CX:=aM y_;have IX:=aM i_;clear y_ i_ hb;obtain ⟨XA0,Xn0,Xc0,XA1,Xn1,Xc1,XA2,Xn2,Xc2,f0_,f1_,f2_⟩:=CX.out.forms;subst f0_;subst f1_;subst f2_;)|((with_reducible refine gate_dst (N:=10) rfl ?_);refine box_event ?hg (N:=10) ?hd (cs:=#[.slice none 0 0,.slice none 0 0,.slice none 0 0]) (t:=35) ?hr ?_;(case hd=>rfl);(case hg=>rfl);(case hr=>first|(go_simp;done)|(go_simp;rfl));intro g10 hg w7 hbox hb;have GE10:=aM (show w.heap.size≤g10 by rw [hg];exact below_size HB.out);have P3_10:=aM (show g3<g10 by rw [hg];exact blk_lt B3.out);have X3_10:=aM (show ¬ g3=g10 by have:=P3_10.out;omega);have x3_10:=X3_10.out;have y3_10:=(Ne.symm x3_10);have P5_10:=aM (show g5<g10 by rw [hg];exact blk_lt B5.out);have X5_10:=aM (show ¬ g5=g10 by have:=P5_10.out;omega);have x5_10:=X5_10.out;have y5_10:=(Ne.symm x5_10);have P8_10:=aM (show g8<g10 by rw [hg];exact blk_lt B8.out);have X8_10:=aM (show ¬ g8=g10 by have:=P8_10.out;omega);have x8_10:=X8_10.out;have y8_10:=(Ne.symm x8_10);have KE10:=aM (show wj.heap.size≤g10 by rw [hg];exact ME.out);have OM10:=aM (And.intro K3.out (And.intro K5.out (And.intro K8.out (And.intro P3_10.out (And.intro P5_10.out (And.intro P8_10.out KE10.out))))));have YV_10:=aM (show ¬ UV g10 from fun h_=>by have:=(IV.out g10 h_).2;have:=OM10.out;omega);have YOV_10:=aM (show ¬ UOV g10 from fun h_=>by have:=(IOV.out g10 h_).2;have:=OM10.out;omega);replace IX:=aM (show ∀ k_,UX k_→wj.heap.size≤k_∧k_<g10 from fun k_ h_=>⟨(IX.out k_ h_).1,by rw [hg];exact (IX.out k_ h_).2⟩);have YX_10:=aM (show ¬ UX g10 from fun h_=>by have:=(IX.out g10 h_).2;have:=OM10.out;omega);replace B3:=aM (bB B3.out hb);replace B5:=aM (bB B5.out hb);replace B8:=aM (bB B8.out hb);replace CV:=aM (CV.out.below hb);replace COV:=aM (Kd.S_below COV.out hb);replace CX:=aM (CX.out.below hb);replace HB:=aM (bS HB.out hb);replace ME:=aM (Nat.le_trans ME.out (below_size hb));have B10:=aM hbox;clear hb hbox hg;have zb10_5_0:w7.cell? ⟨g5,0,none⟩=some (.int .i64 a2_0):=cI B5.out 0;have zb10_5_1:w7.cell? ⟨g5,1,none⟩=some (.int .i64 a2_1):=cI B5.out 1;have zb10_5_2:w7.cell? ⟨g5,2,none⟩=some (.int .i64 a2_2):=cI B5.out 2;have zb10_5_3:w7.cell? ⟨g5,3,none⟩=some (.slice A2_3 l2_3.length c2_3):=cI B5.out 3;have zb10_10_0:w7.cell? ⟨g10,0,none⟩=some (.slice none 0 0):=cI B10.out 0;have zb10_10_1:w7.cell? ⟨g10,1,none⟩=some (.slice none 0 0):=cI B10.out 1;have zb10_10_2:w7.cell? ⟨g10,2,none⟩=some (.slice none 0 0):=cI B10.out 2;have fr10_0:=bF B10.out 0;have fr10_1:=bF B10.out 1;have fr10_2:=bF B10.out 2)|((with_reducible refine gate_callee (f:=8) rfl ?_);refine goesL_ (some 41) rfl rfl Try.func8 (by kernel_rfl) rfl #[.agg #[.int .i64 a2_0,.int .i64 a2_1,.int .i64 a2_2,.slice A2_3 l2_3.length c2_3]] rfl (by (try simp only [List.map_toArray,List.map_cons,List.map_nil]);first|done|rfl) ?_;replace B3:=aM (blk_kept B3.out (fill3_kept w7 g10 (.slice XA0 Xn0 Xc0) (.slice XA1 Xn1 Xc1) (.slice XA2 Xn2 Xc2)) X3_10.out);replace B5:=aM (blk_kept B5.out (fill3_kept w7 g10 (.slice XA0 Xn0 Xc0) (.slice XA1 Xn1 Xc1) (.slice XA2 Xn2 Xc2)) X5_10.out);replace B8:=aM (blk_kept B8.out (fill3_kept w7 g10 (.slice XA0 Xn0 Xc0) (.slice XA1 Xn1 Xc1) (.slice XA2 Xn2 Xc2)) X8_10.out);replace CV:=aM (CV.out.kept (fill3_kept w7 g10 (.slice XA0 Xn0 Xc0) (.slice XA1 Xn1 Xc1) (.slice XA2 Xn2 Xc2)) (fun k_ h1_ h2_=>by subst h2_;exact YV_10.out h1_));replace COV:=aM (S_stays COV.out (fill3_kept w7 g10 (.slice XA0 Xn0 Xc0) (.slice XA1 Xn1 Xc1) (.slice XA2 Xn2 Xc2)) (fun k_ h1_ h2_=>by subst h2_;exact YOV_10.out h1_));replace CX:=aM (CX.out.kept (fill3_kept w7 g10 (.slice XA0 Xn0 Xc0) (.slice XA1 Xn1 Xc1) (.slice XA2 Xn2 Xc2)) (fun k_ h1_ h2_=>by subst h2_;exact YX_10.out h1_));replace HB:=aM (fill3_below HB.out GE10.out (.slice XA0 Xn0 Xc0) (.slice XA1 Xn1 Xc1) (.slice XA2 Xn2 Xc2));replace B10:=aM (fill3_box B10.out (.slice XA0 Xn0 Xc0) (.slice XA1 Xn1 Xc1) (.slice XA2 Xn2 Xc2));replace ME:=aM (Nat.le_trans ME.out (fill3_kept w7 g10 (.slice XA0 Xn0 Xc0) (.slice XA1 Xn1 Xc1) (.slice XA2 Xn2 Xc2)).1);(with_reducible refine (to_frame k (g10+1) (Nat.succ_le_of_lt (blk_lt B10.out)) (below_size HB.out) (cB R3.out HB.out) N3.out E4.out).mono ?_);rintro e w8 ⟨u3,UF,rfl,hb,i_,y_⟩;refine ⟨_,rfl,?_⟩;replace B3:=aM (bB B3.out hb);replace B5:=aM (bB B5.out hb);replace B8:=aM (bB B8.out hb);replace B10:=aM (bB B10.out hb);replace CV:=aM (CV.out.below hb);replace COV:=aM (Kd.S_below COV.out hb);replace CX:=aM (CX.out.below hb);replace HB:=aM (bS HB.out hb);replace ME:=aM (Nat.le_trans ME.out (below_size hb));have CF:=aM y_;have IF:=aM i_;clear y_ i_ hb;obtain ⟨FA,Fn,Fc,f0_⟩:=R_form1 CF.out;subst f0_;)|((with_reducible refine gate_dst (N:=11) rfl ?_);refine box_event ?hg (N:=11) ?hd (cs:=#[.int .i64 0,.int .i64 0,.int .i64 0,.slice none 0 0]) (t:=40) ?hr ?_;(case hd=>rfl);(case hg=>rfl);(case hr=>first|(go_simp;done)|(go_simp;rfl));intro g11 hg w9 hbox hb;have GE11:=aM (show w.heap.size≤g11 by rw [hg];exact below_size HB.out);have P3_11:=aM (show g3<g11 by rw [hg];exact blk_lt B3.out);have X3_11:=aM (show ¬ g3=g11 by have:=P3_11.out;omega);have x3_11:=X3_11.out;have y3_11:=(Ne.symm x3_11);have P5_11:=aM (show g5<g11 by rw [hg];exact blk_lt B5.out);have X5_11:=aM (show ¬ g5=g11 by have:=P5_11.out;omega);have x5_11:=X5_11.out;have y5_11:=(Ne.symm x5_11);have P8_11:=aM (show g8<g11 by rw [hg];exact blk_lt B8.out);have X8_11:=aM (show ¬ g8=g11 by have:=P8_11.out;omega);have x8_11:=X8_11.out;have y8_11:=(Ne.symm x8_11);have P10_11:=aM (show g10<g11 by rw [hg];exact blk_lt B10.out);have X10_11:=aM (show ¬ g10=g11 by have:=P10_11.out;omega);have x10_11:=X10_11.out;have y10_11:=(Ne.symm x10_11);have KE11:=aM (show wj.heap.size≤g11 by rw [hg];exact ME.out);have OM11:=aM (And.intro OM10.out (And.intro P3_11.out (And.intro P5_11.out (And.intro P8_11.out (And.intro P10_11.out KE11.out)))));have YV_11:=aM (show ¬ UV g11 from fun h_=>by have:=(IV.out g11 h_).2;have:=OM11.out;omega);have YOV_11:=aM (show ¬ UOV g11 from fun h_=>by have:=(IOV.out g11 h_).2;have:=OM11.out;omega);have YX_11:=aM (show ¬ UX g11 from fun h_=>by have:=(IX.out g11 h_).2;have:=OM11.out;omega);replace IF:=aM (show ∀ k_,UF k_→g10+1≤k_∧k_<g11 from fun k_ h_=>⟨(IF.out k_ h_).1,by rw [hg];exact (IF.out k_ h_).2⟩);have YF_11:=aM (show ¬ UF g11 from fun h_=>by have:=(IF.out g11 h_).2;have:=OM11.out;omega);replace B3:=aM (bB B3.out hb);replace B5:=aM (bB B5.out hb);replace B8:=aM (bB B8.out hb);replace B10:=aM (bB B10.out hb);replace CV:=aM (CV.out.below hb);replace COV:=aM (Kd.S_below COV.out hb);replace CX:=aM (CX.out.below hb);replace CF:=aM (kB CF.out hb);replace HB:=aM (bS HB.out hb);replace ME:=aM (Nat.le_trans ME.out (below_size hb));have B11:=aM hbox;clear hb hbox hg;have zb11_10_0:w9.cell? ⟨g10,0,none⟩=some (.slice XA0 Xn0 Xc0):=cI B10.out 0;have zb11_10_1:w9.cell? ⟨g10,1,none⟩=some (.slice XA1 Xn1 Xc1):=cI B10.out 1;have zb11_10_2:w9.cell? ⟨g10,2,none⟩=some (.slice XA2 Xn2 Xc2):=cI B10.out 2;have zb11_11_0:w9.cell? ⟨g11,0,none⟩=some (.int .i64 0):=cI B11.out 0;have zb11_11_1:w9.cell? ⟨g11,1,none⟩=some (.int .i64 0):=cI B11.out 1;have zb11_11_2:w9.cell? ⟨g11,2,none⟩=some (.int .i64 0):=cI B11.out 2;have zb11_11_3:w9.cell? ⟨g11,3,none⟩=some (.slice none 0 0):=cI B11.out 3;have fr11_0:=bF B11.out 0;have fr11_1:=bF B11.out 1;have fr11_2:=bF B11.out 2;have fr11_3:=bF B11.out 3)|((with_reducible refine gate_callee (f:=9) rfl ?_);refine goesL_ (some 46) rfl rfl Try.func9 (by kernel_rfl) rfl #[.agg #[.slice XA0 Xn0 Xc0,.slice XA1 Xn1 Xc1,.slice XA2 Xn2 Xc2],.int .i64 a1,.agg #[.int .i64 f0,.int .i64 f1,.int .i64 f2,.slice FA Fn Fc]] rfl (by (try simp only [List.map_toArray,List.map_cons,List.map_nil]);first|done|rfl) ?_;replace B3:=aM (blk_kept B3.out (fill4_kept w9 g11 (.int .i64 f0) (.int .i64 f1) (.int .i64 f2) (.slice FA Fn Fc)) X3_11.out);replace B5:=aM (blk_kept B5.out (fill4_kept w9 g11 (.int .i64 f0) (.int .i64 f1) (.int .i64 f2) (.slice FA Fn Fc)) X5_11.out);replace B8:=aM (blk_kept B8.out (fill4_kept w9 g11 (.int .i64 f0) (.int .i64 f1) (.int .i64 f2) (.slice FA Fn Fc)) X8_11.out);replace B10:=aM (blk_kept B10.out (fill4_kept w9 g11 (.int .i64 f0) (.int .i64 f1) (.int .i64 f2) (.slice FA Fn Fc)) X10_11.out);replace CV:=aM (CV.out.kept (fill4_kept w9 g11 (.int .i64 f0) (.int .i64 f1) (.int .i64 f2) (.slice FA Fn Fc)) (fun k_ h1_ h2_=>by subst h2_;exact YV_11.out h1_));replace COV:=aM (S_stays COV.out (fill4_kept w9 g11 (.int .i64 f0) (.int .i64 f1) (.int .i64 f2) (.slice FA Fn Fc)) (fun k_ h1_ h2_=>by subst h2_;exact YOV_11.out h1_));replace CX:=aM (CX.out.kept (fill4_kept w9 g11 (.int .i64 f0) (.int .i64 f1) (.int .i64 f2) (.slice FA Fn Fc)) (fun k_ h1_ h2_=>by subst h2_;exact YX_11.out h1_));replace CF:=aM (R_stays CF.out (fill4_kept w9 g11 (.int .i64 f0) (.int .i64 f1) (.int .i64 f2) (.slice FA Fn Fc)) (fun k_ h1_ h2_=>by subst h2_;exact YF_11.out h1_));replace HB:=aM (fill4_below HB.out GE11.out (.int .i64 f0) (.int .i64 f1) (.int .i64 f2) (.slice FA Fn Fc));replace B11:=aM (fill4_box B11.out (.int .i64 f0) (.int .i64 f1) (.int .i64 f2) (.slice FA Fn Fc));replace ME:=aM (Nat.le_trans ME.out (fill4_kept w9 g11 (.int .i64 f0) (.int .i64 f1) (.int .i64 f2) (.slice FA Fn Fc)).1);(with_reducible refine (impl_pass k (g11+1) (a1:=a1) (Nat.succ_le_of_lt (blk_lt B11.out)) (below_size HB.out) CX.out CF.out E6.out).mono ?_);rintro e w10 ⟨u0,u1,u2,u3,UG,UOG,rfl,hb,i1_,i2_,d_,y1_,y2_⟩;refine ⟨_,rfl,?_⟩;replace B3:=aM (bB B3.out hb);replace B5:=aM (bB B5.out hb);replace B8:=aM (bB B8.out hb);replace B10:=aM (bB B10.out hb);replace B11:=aM (bB B11.out hb);replace CV:=aM (CV.out.below hb);replace COV:=aM (Kd.S_below COV.out hb);replace CX:=aM (CX.out.below hb);replace CF:=aM (kB CF.out hb);replace HB:=aM (bS HB.out hb);replace ME:=aM (Nat.le_trans ME.out (below_size hb));have CG:=aM y1_;have COG:=aM y2_;have IG:=aM i1_;have IOG:=aM i2_;have DG:=aM d_;clear y1_ y2_ i1_ i2_ d_ hb;obtain ⟨GA0,Gn0,Gc0,GA1,Gn1,Gc1,GA2,Gn2,Gc2,f0_,f1_,f2_⟩:=CG.out.forms;subst f0_;subst f1_;subst f2_;obtain ⟨OGA,OGn,OGc,f0_⟩:=S_form1 COG.out;subst f0_;)|((with_reducible refine gate_dst (N:=12) rfl ?_);refine box_event ?hg (N:=12) ?hd (cs:=#[.slice none 0 0,.slice none 0 0,.slice none 0 0]) (t:=35) ?hr ?_;(case hd=>rfl);(case hg=>rfl);(case hr=>first|(go_simp;done)|(go_simp;rfl));intro g12 hg w11 hbox hb;have GE12:=aM (show w.heap.size≤g12 by rw [hg];exact below_size HB.out);have P3_12:=aM (show g3<g12 by rw [hg];exact blk_lt B3.out);have X3_12:=aM (show ¬ g3=g12 by have:=P3_12.out;omega);have x3_12:=X3_12.out;have y3_12:=(Ne.symm x3_12);have P5_12:=aM (show g5<g12 by rw [hg];exact blk_lt B5.out);have X5_12:=aM (show ¬ g5=g12 by have:=P5_12.out;omega);have x5_12:=X5_12.out;have y5_12:=(Ne.symm x5_12);have P8_12:=aM (show g8<g12 by rw [hg];exact blk_lt B8.out);have X8_12:=aM (show ¬ g8=g12 by have:=P8_12.out;omega);have x8_12:=X8_12.out;have y8_12:=(Ne.symm x8_12);have P10_12:=aM (show g10<g12 by rw [hg];exact blk_lt B10.out);have X10_12:=aM (show ¬ g10=g12 by have:=P10_12.out;omega);have x10_12:=X10_12.out;have y10_12:=(Ne.symm x10_12);have P11_12:=aM (show g11<g12 by rw [hg];exact blk_lt B11.out);have X11_12:=aM (show ¬ g11=g12 by have:=P11_12.out;omega);have x11_12:=X11_12.out;have y11_12:=(Ne.symm x11_12);have KE12:=aM (show wj.heap.size≤g12 by rw [hg];exact ME.out);have OM12:=aM (And.intro OM11.out (And.intro P3_12.out (And.intro P5_12.out (And.intro P8_12.out (And.intro P10_12.out (And.intro P11_12.out KE12.out))))));have YV_12:=aM (show ¬ UV g12 from fun h_=>by have:=(IV.out g12 h_).2;have:=OM12.out;omega);have YOV_12:=aM (show ¬ UOV g12 from fun h_=>by have:=(IOV.out g12 h_).2;have:=OM12.out;omega);have YX_12:=aM (show ¬ UX g12 from fun h_=>by have:=(IX.out g12 h_).2;have:=OM12.out;omega);have YF_12:=aM (show ¬ UF g12 from fun h_=>by have:=(IF.out g12 h_).2;have:=OM12.out;omega);replace IG:=aM (show ∀ k_,UG k_→g11+1≤k_∧k_<g12 from fun k_ h_=>⟨(IG.out k_ h_).1,by rw [hg];exact (IG.out k_ h_).2⟩);have YG_12:=aM (show ¬ UG g12 from fun h_=>by have:=(IG.out g12 h_).2;have:=OM12.out;omega);replace IOG:=aM (show ∀ k_,UOG k_→g11+1≤k_∧k_<g12 from fun k_ h_=>⟨(IOG.out k_ h_).1,by rw [hg];exact (IOG.out k_ h_).2⟩);have YOG_12:=aM (show ¬ UOG g12 from fun h_=>by have:=(IOG.out g12 h_).2;have:=OM12.out;omega);replace B3:=aM (bB B3.out hb);replace B5:=aM (bB B5.out hb);replace B8:=aM (bB B8.out hb);replace B10:=aM (bB B10.out hb);replace B11:=aM (bB B11.out hb);replace CV:=aM (CV.out.below hb);replace COV:=aM (Kd.S_below COV.out hb);replace CX:=aM (CX.out.below hb);replace CF:=aM (kB CF.out hb);replace CG:=aM (CG.out.below hb);replace COG:=aM (Kd.S_below COG.out hb);replace HB:=aM (bS HB.out hb);replace ME:=aM (Nat.le_trans ME.out (below_size hb));have B12:=aM hbox;clear hb hbox hg;have zb12_8_0:w11.cell? ⟨g8,0,none⟩=some (.slice VA0 Vn0 Vc0):=cI B8.out 0;have zb12_8_1:w11.cell? ⟨g8,1,none⟩=some (.slice VA1 Vn1 Vc1):=cI B8.out 1;have zb12_8_2:w11.cell? ⟨g8,2,none⟩=some (.slice VA2 Vn2 Vc2):=cI B8.out 2;have zb12_12_0:w11.cell? ⟨g12,0,none⟩=some (.slice none 0 0):=cI B12.out 0;have zb12_12_1:w11.cell? ⟨g12,1,none⟩=some (.slice none 0 0):=cI B12.out 1;have zb12_12_2:w11.cell? ⟨g12,2,none⟩=some (.slice none 0 0):=cI B12.out 2;have fr12_0:=bF B12.out 0;have fr12_1:=bF B12.out 1;have fr12_2:=bF B12.out 2)|((with_reducible refine gate_callee (f:=10) rfl ?_);refine goesL_ (some 51) rfl rfl Try.func10 (by kernel_rfl) rfl #[.agg #[.slice GA0 Gn0 Gc0,.slice GA1 Gn1 Gc1,.slice GA2 Gn2 Gc2],.agg #[.slice VA0 Vn0 Vc0,.slice VA1 Vn1 Vc1,.slice VA2 Vn2 Vc2]] rfl (by (try simp only [List.map_toArray,List.map_cons,List.map_nil]);first|done|rfl) ?_;replace B3:=aM (blk_kept B3.out (fill3_kept w11 g12 (.slice GA0 Gn0 Gc0) (.slice GA1 Gn1 Gc1) (.slice GA2 Gn2 Gc2)) X3_12.out);replace B5:=aM (blk_kept B5.out (fill3_kept w11 g12 (.slice GA0 Gn0 Gc0) (.slice GA1 Gn1 Gc1) (.slice GA2 Gn2 Gc2)) X5_12.out);replace B8:=aM (blk_kept B8.out (fill3_kept w11 g12 (.slice GA0 Gn0 Gc0) (.slice GA1 Gn1 Gc1) (.slice GA2 Gn2 Gc2)) X8_12.out);replace B10:=aM (blk_kept B10.out (fill3_kept w11 g12 (.slice GA0 Gn0 Gc0) (.slice GA1 Gn1 Gc1) (.slice GA2 Gn2 Gc2)) X10_12.out);replace B11:=aM (blk_kept B11.out (fill3_kept w11 g12 (.slice GA0 Gn0 Gc0) (.slice GA1 Gn1 Gc1) (.slice GA2 Gn2 Gc2)) X11_12.out);replace CV:=aM (CV.out.kept (fill3_kept w11 g12 (.slice GA0 Gn0 Gc0) (.slice GA1 Gn1 Gc1) (.slice GA2 Gn2 Gc2)) (fun k_ h1_ h2_=>by subst h2_;exact YV_12.out h1_));replace COV:=aM (S_stays COV.out (fill3_kept w11 g12 (.slice GA0 Gn0 Gc0) (.slice GA1 Gn1 Gc1) (.slice GA2 Gn2 Gc2)) (fun k_ h1_ h2_=>by subst h2_;exact YOV_12.out h1_));replace CX:=aM (CX.out.kept (fill3_kept w11 g12 (.slice GA0 Gn0 Gc0) (.slice GA1 Gn1 Gc1) (.slice GA2 Gn2 Gc2)) (fun k_ h1_ h2_=>by subst h2_;exact YX_12.out h1_));replace CF:=aM (R_stays CF.out (fill3_kept w11 g12 (.slice GA0 Gn0 Gc0) (.slice GA1 Gn1 Gc1) (.slice GA2 Gn2 Gc2)) (fun k_ h1_ h2_=>by subst h2_;exact YF_12.out h1_));replace CG:=aM (CG.out.kept (fill3_kept w11 g12 (.slice GA0 Gn0 Gc0) (.slice GA1 Gn1 Gc1) (.slice GA2 Gn2 Gc2)) (fun k_ h1_ h2_=>by subst h2_;exact YG_12.out h1_));replace COG:=aM (S_stays COG.out (fill3_kept w11 g12 (.slice GA0 Gn0 Gc0) (.slice GA1 Gn1 Gc1) (.slice GA2 Gn2 Gc2)) (fun k_ h1_ h2_=>by subst h2_;exact YOG_12.out h1_));replace HB:=aM (fill3_below HB.out GE12.out (.slice GA0 Gn0 Gc0) (.slice GA1 Gn1 Gc1) (.slice GA2 Gn2 Gc2));replace B12:=aM (fill3_box B12.out (.slice GA0 Gn0 Gc0) (.slice GA1 Gn1 Gc1) (.slice GA2 Gn2 Gc2));replace ME:=aM (Nat.le_trans ME.out (fill3_kept w11 g12 (.slice GA0 Gn0 Gc0) (.slice GA1 Gn1 Gc1) (.slice GA2 Gn2 Gc2)).1);(with_reducible refine (eq_card k CG.out CV.out E7.out).mono ?_);rintro e w12 ⟨rfl,hb⟩;refine ⟨_,rfl,?_⟩;replace B3:=aM (bB B3.out hb);replace B5:=aM (bB B5.out hb);replace B8:=aM (bB B8.out hb);replace B10:=aM (bB B10.out hb);replace B11:=aM (bB B11.out hb);replace B12:=aM (bB B12.out hb);replace CV:=aM (CV.out.below hb);replace COV:=aM (Kd.S_below COV.out hb);replace CX:=aM (CX.out.below hb);replace CF:=aM (kB CF.out hb);replace CG:=aM (CG.out.below hb);replace COG:=aM (Kd.S_below COG.out hb);replace HB:=aM (bS HB.out hb);replace ME:=aM (Nat.le_trans ME.out (below_size hb));clear hb;)|(go_at_call 11;(with_reducible refine (eq_outs k COG.out COV.out E8.out).mono ?_);rintro e w13 ⟨rfl,hb⟩;replace B3:=aM (bB B3.out hb);replace B5:=aM (bB B5.out hb);replace B8:=aM (bB B8.out hb);replace B10:=aM (bB B10.out hb);replace B11:=aM (bB B11.out hb);replace B12:=aM (bB B12.out hb);replace CV:=aM (CV.out.below hb);replace COV:=aM (Kd.S_below COV.out hb);replace CX:=aM (CX.out.below hb);replace CF:=aM (kB CF.out hb);replace CG:=aM (CG.out.below hb);replace COG:=aM (Kd.S_below COG.out hb);replace HB:=aM (bS HB.out hb);replace ME:=aM (Nat.le_trans ME.out (below_size hb));clear hb;))
 replace B3:=aM (blk_drew B3.out);replace B5:=aM (blk_drew B5.out);replace B8:=aM (blk_drew B8.out);replace B10:=aM (blk_drew B10.out);replace B11:=aM (blk_drew B11.out);replace B12:=aM (blk_drew B12.out);replace CV:=aM (CV.out.kept (Kept.drew (Kept.refl w13 (fun _=>False))) (fun _ _ h_=>h_))
 replace COV:=aM (S_stays COV.out (Kept.drew (Kept.refl w13 (fun _=>False))) (fun _ _ h_=>h_))
 replace CX:=aM (CX.out.kept (Kept.drew (Kept.refl w13 (fun _=>False))) (fun _ _ h_=>h_))
 replace CF:=aM (R_stays CF.out (Kept.drew (Kept.refl w13 (fun _=>False))) (fun _ _ h_=>h_))
 replace CG:=aM (CG.out.kept (Kept.drew (Kept.refl w13 (fun _=>False))) (fun _ _ h_=>h_))
 replace COG:=aM (S_stays COG.out (Kept.drew (Kept.refl w13 (fun _=>False))) (fun _ _ h_=>h_))
 replace HB:=aM (below_drew1 HB.out);replace ME:=aM (show wj.heap.size≤w13.drew.heap.size from ME.out);refine start_ (n:=5) (S:=fun w'=>w'.cell? ⟨g10,0,none⟩=some (.slice XA0 Xn0 Xc0)∧w'.cell? ⟨g10,1,none⟩=some (.slice XA1 Xn1 Xc1)∧w'.cell? ⟨g10,2,none⟩=some (.slice XA2 Xn2 Xc2)∧w'.cell? ⟨g3,0,none⟩=some (.slice A0_0 l0_0.length c0_0)∧w'.cell? ⟨g3,1,none⟩=some (.slice A0_1 l0_1.length c0_1)∧w'.cell? ⟨g3,2,none⟩=some (.slice A0_2 l0_2.length c0_2)) (ds:=[]) (dn 5 0) (by kernel_rfl) rfl rfl ⟨cI B10.out 0,cI B10.out 1,cI B10.out 2,cI B3.out 0,cI B3.out 1,cI B3.out 2⟩ (fun hHeld=>?_)
 generalize w13.drew=wa at B3 B5 B8 B10 B11 B12 CV COV CX CF CG COG ME HB hHeld ⊢
 refine take_ (i:=0) (N:=some 59) (v:=?_) (a':=?_) #[Y,U,U,U,U] rfl rfl (by kernel_rfl) (fun _ _ _ h=>h) (Or.inl ⟨by rfl,?_⟩) hHeld ?_ ?_
 rotate_left
 ·rintro w' ⟨s0,s1,s2,s3,s4,s5⟩
  go_simp
  with_reducible rfl
 rotate_left
 ·simp only [Act.put,sA,sZ,sS,i64_w,i32_w]
  rfl
 refine take_ (i:=1) (N:=some 60) (v:=?_) (a':=?_) #[Y,Y,U,U,U] rfl rfl (by kernel_rfl) (fun _ _ _ h=>h) (Or.inl ⟨by rfl,?_⟩) hHeld ?_ ?_
 rotate_left
 ·rintro w' ⟨s0,s1,s2,s3,s4,s5⟩
  go_simp
  with_reducible rfl
 rotate_left
 ·simp only [Act.put,sA,sZ,sS,i64_w,i32_w]
  rfl
 refine one_ (i:=2) (N:=some 61) #[Y,Y,Y,U,U] rfl rfl (by kernel_rfl) (by decide) (fun K hK=>?_)
 refine goes_ Try.func7 (by kernel_rfl) rfl #[.agg #[.slice A0_0 l0_0.length c0_0,.slice A0_1 l0_1.length c0_1,.slice A0_2 l0_2.length c0_2]] (by rfl) rfl rfl (by (try simp only [List.map_toArray,List.map_cons,List.map_nil]);first|done|rfl) ?_
 with_reducible refine (to_card k 0 (Nat.zero_le _) (below_size HB.out) (cB R0.out HB.out) N0.out (cB R1.out HB.out) N1.out (cB R2.out HB.out) N2.out E3.out).mono ?_
 rintro e w14 ⟨u0,u1,u2,UY_,rfl,hb,i_,y_⟩;refine ⟨_,rfl,?_⟩;replace B3:=aM (bB B3.out hb);replace B5:=aM (bB B5.out hb);replace B8:=aM (bB B8.out hb);replace B10:=aM (bB B10.out hb);replace B11:=aM (bB B11.out hb);replace B12:=aM (bB B12.out hb);replace CV:=aM (CV.out.below hb);replace COV:=aM (Kd.S_below COV.out hb);replace CX:=aM (CX.out.below hb);replace CF:=aM (kB CF.out hb);replace CG:=aM (CG.out.below hb);replace COG:=aM (Kd.S_below COG.out hb);replace HB:=aM (bS HB.out hb);replace ME:=aM (Nat.le_trans ME.out (below_size hb));have CY_:=aM y_;clear hb i_ y_;refine hK.out _ _ ⟨cI B10.out 0,cI B10.out 1,cI B10.out 2,cI B3.out 0,cI B3.out 1,cI B3.out 2⟩ (fun hHeld=>?_)
 clear hK K;refine norm_ (a':=?_) ?_ ?_;rotate_left
 ·show Act.put _ (some 61) _=_
  simp only [Act.put,sA,sZ,sS,i64_w,i32_w]
  rfl
 refine one_ (i:=3) (N:=some 62) #[Y,Y,Y,Y,U] rfl rfl (by kernel_rfl) (by decide) (fun K hK=>?_)
 refine goes_ Try.func10 (by kernel_rfl) rfl #[.agg #[.slice XA0 Xn0 Xc0,.slice XA1 Xn1 Xc1,.slice XA2 Xn2 Xc2],.agg #[u0,u1,u2]] (by rfl) rfl rfl (by (try simp only [List.map_toArray,List.map_cons,List.map_nil]);first|done|rfl) ?_
 with_reducible refine (eq_card k CX.out CY_.out E9.out).mono ?_
 rintro e w15 ⟨rfl,hb⟩;refine ⟨_,rfl,?_⟩;clear CY_;replace B3:=aM (bB B3.out hb);replace B5:=aM (bB B5.out hb);replace B8:=aM (bB B8.out hb);replace B10:=aM (bB B10.out hb);replace B11:=aM (bB B11.out hb);replace B12:=aM (bB B12.out hb);replace CV:=aM (CV.out.below hb);replace COV:=aM (Kd.S_below COV.out hb);replace CX:=aM (CX.out.below hb);replace CF:=aM (kB CF.out hb);replace CG:=aM (CG.out.below hb);replace COG:=aM (Kd.S_below COG.out hb);replace HB:=aM (bS HB.out hb);replace ME:=aM (Nat.le_trans ME.out (below_size hb));clear hb;refine hK.out _ _ ⟨cI B10.out 0,cI B10.out 1,cI B10.out 2,cI B3.out 0,cI B3.out 1,cI B3.out 2⟩ (fun hHeld=>?_)
 clear hK K;refine norm_ (a':=?_) ?_ ?_;rotate_left
 ·show Act.put _ (some 62) _=_
  simp only [Act.put,sA,sZ,sS,i64_w,i32_w]
  rfl
 refine pure_ (i:=4) (N:=some 63) (v:=?_) (a':=?_) #[Y,Y,Y,Y,Y] rfl rfl (by kernel_rfl) (fun _ _ _ h=>h) (Or.inl ⟨by rfl,?_⟩) ?_ ?_
 rotate_left
 ·intro w'
  go_simp
  with_reducible rfl
 rotate_left
 ·simp only [Act.put,sA,sZ,sS,i64_w,i32_w]
  rfl
 refine done_ (by kernel_rfl) ?_
 have zrw15_3_0:w15.cell? ⟨g3,0,none⟩=some (.slice A0_0 l0_0.length c0_0):=cI B3.out 0;have zrw15_3_1:w15.cell? ⟨g3,1,none⟩=some (.slice A0_1 l0_1.length c0_1):=cI B3.out 1;have zrw15_3_2:w15.cell? ⟨g3,2,none⟩=some (.slice A0_2 l0_2.length c0_2):=cI B3.out 2;have zrw15_5_0:w15.cell? ⟨g5,0,none⟩=some (.int .i64 a2_0):=cI B5.out 0;have zrw15_5_1:w15.cell? ⟨g5,1,none⟩=some (.int .i64 a2_1):=cI B5.out 1;have zrw15_5_2:w15.cell? ⟨g5,2,none⟩=some (.int .i64 a2_2):=cI B5.out 2;have zrw15_5_3:w15.cell? ⟨g5,3,none⟩=some (.slice A2_3 l2_3.length c2_3):=cI B5.out 3;have zrw15_8_0:w15.cell? ⟨g8,0,none⟩=some (.slice VA0 Vn0 Vc0):=cI B8.out 0;have zrw15_8_1:w15.cell? ⟨g8,1,none⟩=some (.slice VA1 Vn1 Vc1):=cI B8.out 1;have zrw15_8_2:w15.cell? ⟨g8,2,none⟩=some (.slice VA2 Vn2 Vc2):=cI B8.out 2;have zrw15_10_0:w15.cell? ⟨g10,0,none⟩=some (.slice XA0 Xn0 Xc0):=cI B10.out 0;have zrw15_10_1:w15.cell? ⟨g10,1,none⟩=some (.slice XA1 Xn1 Xc1):=cI B10.out 1;have zrw15_10_2:w15.cell? ⟨g10,2,none⟩=some (.slice XA2 Xn2 Xc2):=cI B10.out 2;have zrw15_11_0:w15.cell? ⟨g11,0,none⟩=some (.int .i64 f0):=cI B11.out 0;have zrw15_11_1:w15.cell? ⟨g11,1,none⟩=some (.int .i64 f1):=cI B11.out 1;have zrw15_11_2:w15.cell? ⟨g11,2,none⟩=some (.int .i64 f2):=cI B11.out 2;have zrw15_11_3:w15.cell? ⟨g11,3,none⟩=some (.slice FA Fn Fc):=cI B11.out 3;have zrw15_12_0:w15.cell? ⟨g12,0,none⟩=some (.slice GA0 Gn0 Gc0):=cI B12.out 0;have zrw15_12_1:w15.cell? ⟨g12,1,none⟩=some (.slice GA1 Gn1 Gc1):=cI B12.out 1;have zrw15_12_2:w15.cell? ⟨g12,2,none⟩=some (.slice GA2 Gn2 Gc2):=cI B12.out 2
 try go_wp2
 replace B3:=aM (blk_drew B3.out);replace B5:=aM (blk_drew B5.out);replace B8:=aM (blk_drew B8.out);replace B10:=aM (blk_drew B10.out);replace B11:=aM (blk_drew B11.out);replace B12:=aM (blk_drew B12.out);replace CV:=aM (CV.out.kept (Kept.drew (Kept.refl w15 (fun _=>False))) (fun _ _ h_=>h_))
 replace COV:=aM (S_stays COV.out (Kept.drew (Kept.refl w15 (fun _=>False))) (fun _ _ h_=>h_))
 replace CX:=aM (CX.out.kept (Kept.drew (Kept.refl w15 (fun _=>False))) (fun _ _ h_=>h_))
 replace CF:=aM (R_stays CF.out (Kept.drew (Kept.refl w15 (fun _=>False))) (fun _ _ h_=>h_))
 replace CG:=aM (CG.out.kept (Kept.drew (Kept.refl w15 (fun _=>False))) (fun _ _ h_=>h_))
 replace COG:=aM (S_stays COG.out (Kept.drew (Kept.refl w15 (fun _=>False))) (fun _ _ h_=>h_))
 replace HB:=aM (below_drew1 HB.out);replace ME:=aM (show wj.heap.size≤w15.drew.heap.size from ME.out);refine start_ (n:=5) (S:=fun w'=>w'.cell? ⟨g11,0,none⟩=some (.int .i64 f0)∧w'.cell? ⟨g11,1,none⟩=some (.int .i64 f1)∧w'.cell? ⟨g11,2,none⟩=some (.int .i64 f2)∧w'.cell? ⟨g11,3,none⟩=some (.slice FA Fn Fc)∧w'.cell? ⟨g5,0,none⟩=some (.int .i64 a2_0)∧w'.cell? ⟨g5,1,none⟩=some (.int .i64 a2_1)∧w'.cell? ⟨g5,2,none⟩=some (.int .i64 a2_2)∧w'.cell? ⟨g5,3,none⟩=some (.slice A2_3 l2_3.length c2_3)) (ds:=[]) (dn 5 0) (by kernel_rfl) rfl rfl ⟨cI B11.out 0,cI B11.out 1,cI B11.out 2,cI B11.out 3,cI B5.out 0,cI B5.out 1,cI B5.out 2,cI B5.out 3⟩ (fun hHeld=>?_)
 generalize w15.drew=wb at B3 B5 B8 B10 B11 B12 CV COV CX CF CG COG ME HB hHeld ⊢
 refine take_ (i:=0) (N:=some 64) (v:=?_) (a':=?_) #[Y,U,U,U,U] rfl rfl (by kernel_rfl) (fun _ _ _ h=>h) (Or.inl ⟨by rfl,?_⟩) hHeld ?_ ?_
 rotate_left
 ·rintro w' ⟨s0,s1,s2,s3,s4,s5,s6,s7⟩
  go_simp
  with_reducible rfl
 rotate_left
 ·simp only [Act.put,sA,sZ,sS,i64_w,i32_w]
  rfl
 refine take_ (i:=1) (N:=some 65) (v:=?_) (a':=?_) #[Y,Y,U,U,U] rfl rfl (by kernel_rfl) (fun _ _ _ h=>h) (Or.inl ⟨by rfl,?_⟩) hHeld ?_ ?_
 rotate_left
 ·rintro w' ⟨s0,s1,s2,s3,s4,s5,s6,s7⟩
  go_simp
  with_reducible rfl
 rotate_left
 ·simp only [Act.put,sA,sZ,sS,i64_w,i32_w]
  rfl
 refine one_ (i:=2) (N:=some 66) #[Y,Y,Y,U,U] rfl rfl (by kernel_rfl) (by decide) (fun K hK=>?_)
 refine goes_ Try.func8 (by kernel_rfl) rfl #[.agg #[.int .i64 a2_0,.int .i64 a2_1,.int .i64 a2_2,.slice A2_3 l2_3.length c2_3]] (by rfl) rfl rfl (by (try simp only [List.map_toArray,List.map_cons,List.map_nil]);first|done|rfl) ?_
 with_reducible refine (to_frame k 0 (Nat.zero_le _) (below_size HB.out) (cB R3.out HB.out) N3.out E4.out).mono ?_
 rintro e w16 ⟨u3,UY_,rfl,hb,i_,y_⟩;refine ⟨_,rfl,?_⟩;replace B3:=aM (bB B3.out hb);replace B5:=aM (bB B5.out hb);replace B8:=aM (bB B8.out hb);replace B10:=aM (bB B10.out hb);replace B11:=aM (bB B11.out hb);replace B12:=aM (bB B12.out hb);replace CV:=aM (CV.out.below hb);replace COV:=aM (Kd.S_below COV.out hb);replace CX:=aM (CX.out.below hb);replace CF:=aM (kB CF.out hb);replace CG:=aM (CG.out.below hb);replace COG:=aM (Kd.S_below COG.out hb);replace HB:=aM (bS HB.out hb);replace ME:=aM (Nat.le_trans ME.out (below_size hb));have CY_:=aM y_;clear hb i_ y_;refine hK.out _ _ ⟨cI B11.out 0,cI B11.out 1,cI B11.out 2,cI B11.out 3,cI B5.out 0,cI B5.out 1,cI B5.out 2,cI B5.out 3⟩ (fun hHeld=>?_)
 clear hK K;refine norm_ (a':=?_) ?_ ?_;rotate_left
 ·show Act.put _ (some 66) _=_
  simp only [Act.put,sA,sZ,sS,i64_w,i32_w]
  rfl
 refine one_ (i:=3) (N:=some 67) #[Y,Y,Y,Y,U] rfl rfl (by kernel_rfl) (by decide) (fun K hK=>?_)
 refine goes_ Try.func12 (by kernel_rfl) rfl #[.agg #[.int .i64 f0,.int .i64 f1,.int .i64 f2,.slice FA Fn Fc],.agg #[.int .i64 f0,.int .i64 f1,.int .i64 f2,u3]] (by rfl) rfl rfl (by (try simp only [List.map_toArray,List.map_cons,List.map_nil]);first|done|rfl) ?_
 with_reducible refine (eq_frame k CF.out CY_.out E10.out).mono ?_
 rintro e w17 ⟨rfl,hb⟩;refine ⟨_,rfl,?_⟩;clear CY_;replace B3:=aM (bB B3.out hb);replace B5:=aM (bB B5.out hb);replace B8:=aM (bB B8.out hb);replace B10:=aM (bB B10.out hb);replace B11:=aM (bB B11.out hb);replace B12:=aM (bB B12.out hb);replace CV:=aM (CV.out.below hb);replace COV:=aM (Kd.S_below COV.out hb);replace CX:=aM (CX.out.below hb);replace CF:=aM (kB CF.out hb);replace CG:=aM (CG.out.below hb);replace COG:=aM (Kd.S_below COG.out hb);replace HB:=aM (bS HB.out hb);replace ME:=aM (Nat.le_trans ME.out (below_size hb));clear hb;refine hK.out _ _ ⟨cI B11.out 0,cI B11.out 1,cI B11.out 2,cI B11.out 3,cI B5.out 0,cI B5.out 1,cI B5.out 2,cI B5.out 3⟩ (fun hHeld=>?_)
 clear hK K;refine norm_ (a':=?_) ?_ ?_;rotate_left
 ·show Act.put _ (some 67) _=_
  simp only [Act.put,sA,sZ,sS,i64_w,i32_w]
  rfl
 refine pure_ (i:=4) (N:=some 68) (v:=?_) (a':=?_) #[Y,Y,Y,Y,Y] rfl rfl (by kernel_rfl) (fun _ _ _ h=>h) (Or.inl ⟨by rfl,?_⟩) ?_ ?_
 rotate_left
 ·intro w'
  go_simp
  with_reducible rfl
 rotate_left
 ·simp only [Act.put,sA,sZ,sS,i64_w,i32_w]
  rfl
 refine done_ (by kernel_rfl) ?_
 have zrw17_3_0:w17.cell? ⟨g3,0,none⟩=some (.slice A0_0 l0_0.length c0_0):=cI B3.out 0;have zrw17_3_1:w17.cell? ⟨g3,1,none⟩=some (.slice A0_1 l0_1.length c0_1):=cI B3.out 1;have zrw17_3_2:w17.cell? ⟨g3,2,none⟩=some (.slice A0_2 l0_2.length c0_2):=cI B3.out 2;have zrw17_5_0:w17.cell? ⟨g5,0,none⟩=some (.int .i64 a2_0):=cI B5.out 0;have zrw17_5_1:w17.cell? ⟨g5,1,none⟩=some (.int .i64 a2_1):=cI B5.out 1;have zrw17_5_2:w17.cell? ⟨g5,2,none⟩=some (.int .i64 a2_2):=cI B5.out 2;have zrw17_5_3:w17.cell? ⟨g5,3,none⟩=some (.slice A2_3 l2_3.length c2_3):=cI B5.out 3;have zrw17_8_0:w17.cell? ⟨g8,0,none⟩=some (.slice VA0 Vn0 Vc0):=cI B8.out 0;have zrw17_8_1:w17.cell? ⟨g8,1,none⟩=some (.slice VA1 Vn1 Vc1):=cI B8.out 1;have zrw17_8_2:w17.cell? ⟨g8,2,none⟩=some (.slice VA2 Vn2 Vc2):=cI B8.out 2;have zrw17_10_0:w17.cell? ⟨g10,0,none⟩=some (.slice XA0 Xn0 Xc0):=cI B10.out 0;have zrw17_10_1:w17.cell? ⟨g10,1,none⟩=some (.slice XA1 Xn1 Xc1):=cI B10.out 1;have zrw17_10_2:w17.cell? ⟨g10,2,none⟩=some (.slice XA2 Xn2 Xc2):=cI B10.out 2;have zrw17_11_0:w17.cell? ⟨g11,0,none⟩=some (.int .i64 f0):=cI B11.out 0;have zrw17_11_1:w17.cell? ⟨g11,1,none⟩=some (.int .i64 f1):=cI B11.out 1;have zrw17_11_2:w17.cell? ⟨g11,2,none⟩=some (.int .i64 f2):=cI B11.out 2;have zrw17_11_3:w17.cell? ⟨g11,3,none⟩=some (.slice FA Fn Fc):=cI B11.out 3;have zrw17_12_0:w17.cell? ⟨g12,0,none⟩=some (.slice GA0 Gn0 Gc0):=cI B12.out 0;have zrw17_12_1:w17.cell? ⟨g12,1,none⟩=some (.slice GA1 Gn1 Gc1):=cI B12.out 1;have zrw17_12_2:w17.cell? ⟨g12,2,none⟩=some (.slice GA2 Gn2 Gc2):=cI B12.out 2
 try go_wp2_with (first|((with_reducible refine gate_callee (f:=13) rfl ?_);refine goesL_ (some 71) rfl rfl Try.func13 (by kernel_rfl) rfl #[.agg #[.slice XA0 Xn0 Xc0,.slice XA1 Xn1 Xc1,.slice XA2 Xn2 Xc2],.int .i64 1] rfl (by (try simp only [List.map_toArray,List.map_cons,List.map_nil]);first|done|rfl) ?_;(with_reducible refine (Y74.calls k o m t 1 k1 o3 m3 t3 w _ HB.out CX.out (fun k_ h_=>Nat.lt_trans (IX.out k_ h_).2 (blk_lt B10.out)) E11.out).mono ?_);rintro e w18 ⟨rfl,hC_,hB_,hk_⟩;refine ⟨_,rfl,?_⟩;replace CX:=aM hC_;replace HB:=aM hB_;replace CV:=aM (CV.out.kept (hk_) (fun k_ h1_ h2_=>by have:=IV.out k_ h1_;have:=IX.out k_ h2_;have:=OM12.out;omega));replace COV:=aM (S_stays COV.out (hk_) (fun k_ h1_ h2_=>by have:=IOV.out k_ h1_;have:=IX.out k_ h2_;have:=OM12.out;omega));replace CF:=aM (R_stays CF.out (hk_) (fun k_ h1_ h2_=>by have:=IF.out k_ h1_;have:=IX.out k_ h2_;have:=OM12.out;omega));replace CG:=aM (CG.out.kept (hk_) (fun k_ h1_ h2_=>by have:=IG.out k_ h1_;have:=IX.out k_ h2_;have:=OM12.out;omega));replace COG:=aM (S_stays COG.out (hk_) (fun k_ h1_ h2_=>by have:=IOG.out k_ h1_;have:=IX.out k_ h2_;have:=OM12.out;omega));replace B3:=aM (blk_kept B3.out hk_ (fun h2_=>by have:=IX.out g3 h2_;have:=OM12.out;omega));replace B5:=aM (blk_kept B5.out hk_ (fun h2_=>by have:=IX.out g5 h2_;have:=OM12.out;omega));replace B8:=aM (blk_kept B8.out hk_ (fun h2_=>by have:=IX.out g8 h2_;have:=OM12.out;omega));replace B10:=aM (blk_kept B10.out hk_ (fun h2_=>by have:=IX.out g10 h2_;have:=OM12.out;omega));replace B11:=aM (blk_kept B11.out hk_ (fun h2_=>by have:=IX.out g11 h2_;have:=OM12.out;omega));replace B12:=aM (blk_kept B12.out hk_ (fun h2_=>by have:=IX.out g12 h2_;have:=OM12.out;omega));clear hk_ hB_;clear hC_;have zcw18_11_0:w18.cell? ⟨g11,0,none⟩=some (.int .i64 f0):=cI B11.out 0;have zcw18_11_1:w18.cell? ⟨g11,1,none⟩=some (.int .i64 f1):=cI B11.out 1;have zcw18_11_2:w18.cell? ⟨g11,2,none⟩=some (.int .i64 f2):=cI B11.out 2;have zcw18_11_3:w18.cell? ⟨g11,3,none⟩=some (.slice FA Fn Fc):=cI B11.out 3)|((with_reducible refine gate_callee (f:=14) rfl ?_);refine goesL_ (some 74) rfl rfl Try.func14 (by kernel_rfl) rfl #[.agg #[.int .i64 f0,.int .i64 f1,.int .i64 f2,.slice FA Fn Fc],.int .i64 k1] rfl (by (try simp only [List.map_toArray,List.map_cons,List.map_nil]);first|done|rfl) ?_;(with_reducible refine (mark_frame k ld k1 k2 ld3 w _ HB.out CF.out E12.out).mono ?_);rintro e w19 ⟨rfl,hB_,hk_⟩;refine ⟨_,rfl,?_⟩;replace HB:=aM hB_;replace CV:=aM (CV.out.kept (hk_) (fun k_ h1_ h2_=>by have:=IV.out k_ h1_;have:=IF.out k_ h2_;have:=OM12.out;omega));replace COV:=aM (S_stays COV.out (hk_) (fun k_ h1_ h2_=>by have:=IOV.out k_ h1_;have:=IF.out k_ h2_;have:=OM12.out;omega));replace CG:=aM (CG.out.kept (hk_) (fun k_ h1_ h2_=>by have:=IG.out k_ h1_;have:=IF.out k_ h2_;have:=OM12.out;omega));replace COG:=aM (S_stays COG.out (hk_) (fun k_ h1_ h2_=>by have:=IOG.out k_ h1_;have:=IF.out k_ h2_;have:=OM12.out;omega));replace B3:=aM (blk_kept B3.out hk_ (fun h2_=>by have:=IF.out g3 h2_;have:=OM12.out;omega));replace B5:=aM (blk_kept B5.out hk_ (fun h2_=>by have:=IF.out g5 h2_;have:=OM12.out;omega));replace B8:=aM (blk_kept B8.out hk_ (fun h2_=>by have:=IF.out g8 h2_;have:=OM12.out;omega));replace B10:=aM (blk_kept B10.out hk_ (fun h2_=>by have:=IF.out g10 h2_;have:=OM12.out;omega));replace B11:=aM (blk_kept B11.out hk_ (fun h2_=>by have:=IF.out g11 h2_;have:=OM12.out;omega));replace B12:=aM (blk_kept B12.out hk_ (fun h2_=>by have:=IF.out g12 h2_;have:=OM12.out;omega));clear hk_ hB_;have zcw19_8_0:w19.cell? ⟨g8,0,none⟩=some (.slice VA0 Vn0 Vc0):=cI B8.out 0;have zcw19_8_1:w19.cell? ⟨g8,1,none⟩=some (.slice VA1 Vn1 Vc1):=cI B8.out 1;have zcw19_8_2:w19.cell? ⟨g8,2,none⟩=some (.slice VA2 Vn2 Vc2):=cI B8.out 2;have zcw19_12_0:w19.cell? ⟨g12,0,none⟩=some (.slice GA0 Gn0 Gc0):=cI B12.out 0;have zcw19_12_1:w19.cell? ⟨g12,1,none⟩=some (.slice GA1 Gn1 Gc1):=cI B12.out 1;have zcw19_12_2:w19.cell? ⟨g12,2,none⟩=some (.slice GA2 Gn2 Gc2):=cI B12.out 2)|(go_at_call 10;(with_reducible refine (eq_card k CG.out CV.out E7.out).mono ?_);rintro e w20 ⟨rfl,hb⟩;replace B3:=aM (bB B3.out hb);replace B5:=aM (bB B5.out hb);replace B8:=aM (bB B8.out hb);replace B10:=aM (bB B10.out hb);replace B11:=aM (bB B11.out hb);replace B12:=aM (bB B12.out hb);replace CV:=aM (CV.out.below hb);replace COV:=aM (Kd.S_below COV.out hb);replace CG:=aM (CG.out.below hb);replace COG:=aM (Kd.S_below COG.out hb);replace HB:=aM (bS HB.out hb);clear hb;)|(go_at_call 11;(with_reducible refine (eq_outs k COG.out COV.out E8.out).mono ?_);rintro e w21 ⟨rfl,hb⟩;replace B3:=aM (bB B3.out hb);replace B5:=aM (bB B5.out hb);replace B8:=aM (bB B8.out hb);replace B10:=aM (bB B10.out hb);replace B11:=aM (bB B11.out hb);replace B12:=aM (bB B12.out hb);replace CV:=aM (CV.out.below hb);replace COV:=aM (Kd.S_below COV.out hb);replace CG:=aM (CG.out.below hb);replace COG:=aM (Kd.S_below COG.out hb);replace HB:=aM (bS HB.out hb);clear hb;have zcw21_12_0:w21.cell? ⟨g12,0,none⟩=some (.slice GA0 Gn0 Gc0):=cI B12.out 0;have zcw21_12_1:w21.cell? ⟨g12,1,none⟩=some (.slice GA1 Gn1 Gc1):=cI B12.out 1;have zcw21_12_2:w21.cell? ⟨g12,2,none⟩=some (.slice GA2 Gn2 Gc2):=cI B12.out 2)|((with_reducible refine gate_callee (f:=13) rfl ?_);refine goesL_ (some 91) rfl rfl Try.func13 (by kernel_rfl) rfl #[.agg #[.slice GA0 Gn0 Gc0,.slice GA1 Gn1 Gc1,.slice GA2 Gn2 Gc2],.int .i64 1] rfl (by (try simp only [List.map_toArray,List.map_cons,List.map_nil]);first|done|rfl) ?_;(with_reducible refine (Y74.calls k o2 m2 t2 1 n1 o4 m4 t4 w _ HB.out CG.out (fun k_ h_=>Nat.lt_trans (IG.out k_ h_).2 (blk_lt B12.out)) E13.out).mono ?_);rintro e w22 ⟨rfl,hC_,hB_,hk_⟩;refine ⟨_,rfl,?_⟩;replace CG:=aM hC_;replace HB:=aM hB_;replace CV:=aM (CV.out.kept (hk_) (fun k_ h1_ h2_=>by have:=IV.out k_ h1_;have:=IG.out k_ h2_;have:=OM12.out;omega));replace COV:=aM (S_stays COV.out (hk_) (fun k_ h1_ h2_=>by have:=IOV.out k_ h1_;have:=IG.out k_ h2_;have:=OM12.out;omega));replace COG:=aM (S_stays COG.out (hk_) (fun k_ h1_ h2_=>DG.out k_ h2_ h1_));replace B3:=aM (blk_kept B3.out hk_ (fun h2_=>by have:=IG.out g3 h2_;have:=OM12.out;omega));replace B5:=aM (blk_kept B5.out hk_ (fun h2_=>by have:=IG.out g5 h2_;have:=OM12.out;omega));replace B8:=aM (blk_kept B8.out hk_ (fun h2_=>by have:=IG.out g8 h2_;have:=OM12.out;omega));replace B10:=aM (blk_kept B10.out hk_ (fun h2_=>by have:=IG.out g10 h2_;have:=OM12.out;omega));replace B11:=aM (blk_kept B11.out hk_ (fun h2_=>by have:=IG.out g11 h2_;have:=OM12.out;omega));replace B12:=aM (blk_kept B12.out hk_ (fun h2_=>by have:=IG.out g12 h2_;have:=OM12.out;omega));clear hk_ hB_;clear hC_;)|((with_reducible refine gate_callee (f:=15) rfl ?_);refine goesL_ (some 94) rfl rfl Try.func15 (by kernel_rfl) rfl #[.slice OGA OGn OGc,.int .i64 n1] rfl (by (try simp only [List.map_toArray,List.map_cons,List.map_nil]);first|done|rfl) ?_;(with_reducible refine (mark_outs k x2 n1 q2 x4 w _ HB.out COG.out E14.out).mono ?_);rintro e w23 ⟨rfl,hC_,hB_,hk_⟩;refine ⟨_,rfl,?_⟩;replace COG:=aM hC_;replace HB:=aM hB_;replace CV:=aM (CV.out.kept (hk_) (fun k_ h1_ h2_=>by have:=IV.out k_ h1_;have:=IOG.out k_ h2_;have:=OM12.out;omega));replace COV:=aM (S_stays COV.out (hk_) (fun k_ h1_ h2_=>by have:=IOV.out k_ h1_;have:=IOG.out k_ h2_;have:=OM12.out;omega));replace CG:=aM (CG.out.kept (hk_) (fun k_ h1_ h2_=>DG.out k_ h1_ h2_));replace B3:=aM (blk_kept B3.out hk_ (fun h2_=>by have:=IOG.out g3 h2_;have:=OM12.out;omega));replace B5:=aM (blk_kept B5.out hk_ (fun h2_=>by have:=IOG.out g5 h2_;have:=OM12.out;omega));replace B8:=aM (blk_kept B8.out hk_ (fun h2_=>by have:=IOG.out g8 h2_;have:=OM12.out;omega));replace B10:=aM (blk_kept B10.out hk_ (fun h2_=>by have:=IOG.out g10 h2_;have:=OM12.out;omega));replace B11:=aM (blk_kept B11.out hk_ (fun h2_=>by have:=IOG.out g11 h2_;have:=OM12.out;omega));replace B12:=aM (blk_kept B12.out hk_ (fun h2_=>by have:=IOG.out g12 h2_;have:=OM12.out;omega));clear hk_ hB_;clear hC_;have zcw23_12_0:w23.cell? ⟨g12,0,none⟩=some (.slice GA0 Gn0 Gc0):=cI B12.out 0;have zcw23_12_1:w23.cell? ⟨g12,1,none⟩=some (.slice GA1 Gn1 Gc1):=cI B12.out 1;have zcw23_12_2:w23.cell? ⟨g12,2,none⟩=some (.slice GA2 Gn2 Gc2):=cI B12.out 2)|((with_reducible refine gate_callee (f:=16) rfl ?_);refine goesL_ (some 97) rfl rfl Try.func16 (by kernel_rfl) rfl #[.agg #[.slice GA0 Gn0 Gc0,.slice GA1 Gn1 Gc1,.slice GA2 Gn2 Gc2],.int .i64 1] rfl (by (try simp only [List.map_toArray,List.map_cons,List.map_nil]);first|done|rfl) ?_;(with_reducible refine (held_card k CG.out E15.out).mono ?_);rintro e w24 ⟨rfl,hb⟩;refine ⟨_,rfl,?_⟩;replace B3:=aM (bB B3.out hb);replace B5:=aM (bB B5.out hb);replace B8:=aM (bB B8.out hb);replace B10:=aM (bB B10.out hb);replace B11:=aM (bB B11.out hb);replace B12:=aM (bB B12.out hb);replace CV:=aM (CV.out.below hb);replace COV:=aM (Kd.S_below COV.out hb);replace CG:=aM (CG.out.below hb);replace COG:=aM (Kd.S_below COG.out hb);replace HB:=aM (bS HB.out hb);clear hb;)|((with_reducible refine gate_callee (f:=17) rfl ?_);refine goesL_ (some 102) rfl rfl Try.func17 (by kernel_rfl) rfl #[.slice OGA OGn OGc,.int .i64 q1] rfl (by (try simp only [List.map_toArray,List.map_cons,List.map_nil]);first|done|rfl) ?_;(with_reducible refine (held_outs k COG.out E16.out).mono ?_);rintro e w25 ⟨rfl,hb⟩;refine ⟨_,rfl,?_⟩;replace B3:=aM (bB B3.out hb);replace B5:=aM (bB B5.out hb);replace B8:=aM (bB B8.out hb);replace B10:=aM (bB B10.out hb);replace B11:=aM (bB B11.out hb);replace B12:=aM (bB B12.out hb);replace CV:=aM (CV.out.below hb);replace COV:=aM (Kd.S_below COV.out hb);replace CG:=aM (CG.out.below hb);replace COG:=aM (Kd.S_below COG.out hb);replace HB:=aM (bS HB.out hb);clear hb;))
 replace B3:=aM (blk_drew B3.out);replace B5:=aM (blk_drew B5.out);replace B8:=aM (blk_drew B8.out);replace B12:=aM (blk_drew B12.out);replace CV:=aM (CV.out.kept (Kept.drew (Kept.refl w25 (fun _=>False))) (fun _ _ h_=>h_))
 replace COV:=aM (S_stays COV.out (Kept.drew (Kept.refl w25 (fun _=>False))) (fun _ _ h_=>h_))
 replace CG:=aM (CG.out.kept (Kept.drew (Kept.refl w25 (fun _=>False))) (fun _ _ h_=>h_))
 replace COG:=aM (S_stays COG.out (Kept.drew (Kept.refl w25 (fun _=>False))) (fun _ _ h_=>h_))
 replace HB:=aM (below_drew1 HB.out);refine start_ (n:=12) (S:=fun w'=>w'.cell? ⟨g3,0,none⟩=some (.slice A0_0 l0_0.length c0_0)∧w'.cell? ⟨g3,1,none⟩=some (.slice A0_1 l0_1.length c0_1)∧w'.cell? ⟨g3,2,none⟩=some (.slice A0_2 l0_2.length c0_2)∧w'.cell? ⟨g5,0,none⟩=some (.int .i64 a2_0)∧w'.cell? ⟨g5,1,none⟩=some (.int .i64 a2_1)∧w'.cell? ⟨g5,2,none⟩=some (.int .i64 a2_2)∧w'.cell? ⟨g5,3,none⟩=some (.slice A2_3 l2_3.length c2_3)) (ds:=[]) (dn 12 0) (by kernel_rfl) rfl rfl ⟨cI B3.out 0,cI B3.out 1,cI B3.out 2,cI B5.out 0,cI B5.out 1,cI B5.out 2,cI B5.out 3⟩ (fun hHeld=>?_);refine with_tabW Y49.tab35 Y49.bits35 (fun HT_ HW_=>?_)
 generalize w25.drew=wd35 at B3 B5 B8 B12 CV COV CG COG HB hHeld ⊢
 refine pure_ (i:=2) (N:=some 111) (v:=?_) (a':=?_) #[U,U,Y,U,U,U,U,U,U,U,U,U] rfl rfl (any_of HT_.out (by kernel_rfl)) (fun _ _ _ h=>h) (Or.inl ⟨by rfl,?_⟩) ?_ ?_
 rotate_left
 ·intro w'
  go_simp
  with_reducible rfl
 rotate_left
 ·simp only [Act.put,sA,sZ,sS,i64_w,i32_w]
  rfl
 refine take_ (i:=0) (N:=some 109) (v:=?_) (a':=?_) #[Y,U,Y,U,U,U,U,U,U,U,U,U] rfl rfl (take_ofW HT_.out HW_.out (by kernel_rfl)) (fun _ _ _ h=>h) (Or.inl ⟨by rfl,?_⟩) hHeld ?_ ?_
 rotate_left
 ·rintro w' ⟨s0,s1,s2,s3,s4,s5,s6⟩
  go_simp
  with_reducible rfl
 rotate_left
 ·simp only [Act.put,sA,sZ,sS,i64_w,i32_w]
  rfl
 refine take_ (i:=3) (N:=some 112) (v:=?_) (a':=?_) #[Y,U,Y,Y,U,U,U,U,U,U,U,U] rfl rfl (take_ofW HT_.out HW_.out (by kernel_rfl)) (fun _ _ _ h=>h) (Or.inl ⟨by rfl,?_⟩) hHeld ?_ ?_
 rotate_left
 ·rintro w' ⟨s0,s1,s2,s3,s4,s5,s6⟩
  go_simp
  with_reducible rfl
 rotate_left
 ·simp only [Act.put,sA,sZ,sS,i64_w,i32_w]
  rfl
 refine join_ (σ:=Value × Value × Value × Value × Value × Value × Value × Value × Nat) 2 #[Y,Y,Y,Y,Y,Y,Y,Y,Y,Y,U,U] (fun s_=>[(110,.agg #[s_.1,s_.2.1,s_.2.2.1]),(113,.agg #[.int .i64 f0,.int .i64 f1,.int .i64 f2,s_.2.2.2.1]),(114,.tuple #[.agg #[s_.2.2.2.2.1,s_.2.2.2.2.2.1,s_.2.2.2.2.2.2.1],s_.2.2.2.2.2.2.2.1]),(17,.pointer (some ⟨s_.2.2.2.2.2.2.2.2,0,none⟩)),(108,.tuple #[.agg #[s_.2.2.2.2.1,s_.2.2.2.2.2.1,s_.2.2.2.2.2.2.1],s_.2.2.2.2.2.2.2.1]),(115,.agg #[s_.2.2.2.2.1,s_.2.2.2.2.2.1,s_.2.2.2.2.2.2.1]),(116,s_.2.2.2.2.2.2.2.1)]) (fun s_ w'=>(w'.cell? ⟨g3,0,none⟩=some (.slice A0_0 l0_0.length c0_0)∧w'.cell? ⟨g3,1,none⟩=some (.slice A0_1 l0_1.length c0_1)∧w'.cell? ⟨g3,2,none⟩=some (.slice A0_2 l0_2.length c0_2)∧w'.cell? ⟨g5,0,none⟩=some (.int .i64 a2_0)∧w'.cell? ⟨g5,1,none⟩=some (.int .i64 a2_1)∧w'.cell? ⟨g5,2,none⟩=some (.int .i64 a2_2)∧w'.cell? ⟨g5,3,none⟩=some (.slice A2_3 l2_3.length c2_3))∧(∃ UV_ UO_:Nat→Prop,(∀ k_,UV_ k_→k_<w'.heap.size)∧(∀ k_,UO_ k_→k_<w'.heap.size)∧¬ UV_ s_.2.2.2.2.2.2.2.2∧¬ UO_ s_.2.2.2.2.2.2.2.2∧CardS w.heap.size w' UV_ s_.2.2.2.2.1 s_.2.2.2.2.2.1 s_.2.2.2.2.2.2.1 o2 m2 t2∧Kd.S k65 65 w' w.heap.size UO_ s_.2.2.2.2.2.2.2.1 x2)∧(w'.heap[s_.2.2.2.2.2.2.2.2]?=some (.cells #[.slice none 0 0,.slice none 0 0,.slice none 0 0] 35 (0,0)))∧(w.heap.size≤s_.2.2.2.2.2.2.2.2)∧(¬ g3=s_.2.2.2.2.2.2.2.2)∧(¬ g5=s_.2.2.2.2.2.2.2.2)∧(¬ g8=s_.2.2.2.2.2.2.2.2)∧(¬ g12=s_.2.2.2.2.2.2.2.2)∧(w'.heap[g3]?=some (.cells #[.slice A0_0 l0_0.length c0_0,.slice A0_1 l0_1.length c0_1,.slice A0_2 l0_2.length c0_2] 26 (0,0)))∧(w'.heap[g5]?=some (.cells #[.int .i64 a2_0,.int .i64 a2_1,.int .i64 a2_2,.slice A2_3 l2_3.length c2_3] 29 (0,0)))∧(w'.heap[g8]?=some (.cells #[.slice VA0 Vn0 Vc0,.slice VA1 Vn1 Vc1,.slice VA2 Vn2 Vc2] 35 (0,0)))∧(w'.heap[g12]?=some (.cells #[.slice GA0 Gn0 Gc0,.slice GA1 Gn1 Gc1,.slice GA2 Gn2 Gc2] 35 (0,0)))∧(CardS w.heap.size w' UV (.slice VA0 Vn0 Vc0) (.slice VA1 Vn1 Vc1) (.slice VA2 Vn2 Vc2) o1 m1 t1)∧(¬ UV s_.2.2.2.2.2.2.2.2)∧(Kd.S k65 65 w' w.heap.size UOV (.slice OVA OVn OVc) x1)∧(¬ UOV s_.2.2.2.2.2.2.2.2)∧(CardS w.heap.size w' UG (.slice GA0 Gn0 Gc0) (.slice GA1 Gn1 Gc1) (.slice GA2 Gn2 Gc2) o4 m4 t4)∧(¬ UG s_.2.2.2.2.2.2.2.2)∧(Kd.S k65 65 w' w.heap.size UOG (.slice OGA OGn OGc) x4)∧(¬ UOG s_.2.2.2.2.2.2.2.2)∧(Below w.heap.size w w')) ?_ ?_
 rotate_left
 ·intro hCont
  refine two_ (i:=1) (j:=9) (Ni:=some 110) (Nj:=some 17) #[Y,Y,Y,Y,U,U,U,U,U,U,U,U] #[Y,U,Y,Y,U,U,U,U,U,Y,U,U] rfl rfl rfl rfl (two_of HT_.out (by kernel_rfl)) (by decide) (by decide) (fun K hK=>?_) (fun K hK=>?_)
  ·skip
   refine goes_ Try.func7 (by kernel_rfl) rfl #[.agg #[.slice A0_0 l0_0.length c0_0,.slice A0_1 l0_1.length c0_1,.slice A0_2 l0_2.length c0_2]] (by rfl) rfl rfl (by (try simp only [List.map_toArray,List.map_cons,List.map_nil]);first|done|rfl) ?_
   with_reducible refine (to_card k 0 (Nat.zero_le _) (below_size HB.out) (cB R0.out HB.out) N0.out (cB R1.out HB.out) N1.out (cB R2.out HB.out) N2.out E3.out).mono ?_
   rintro e wT ⟨vT0,vT1,vT2,UT_,rfl,hb,i_,y_⟩;refine ⟨_,rfl,?_⟩;replace B3:=aM (bB B3.out hb);replace B5:=aM (bB B5.out hb);replace B8:=aM (bB B8.out hb);replace B12:=aM (bB B12.out hb);replace CV:=aM (CV.out.below hb);replace COV:=aM (Kd.S_below COV.out hb);replace CG:=aM (CG.out.below hb);replace COG:=aM (Kd.S_below COG.out hb);replace HB:=aM (bS HB.out hb);have CT_:=aM y_;clear hb i_ y_;refine hK.out _ _ ⟨cI B3.out 0,cI B3.out 1,cI B3.out 2,cI B5.out 0,cI B5.out 1,cI B5.out 2,cI B5.out 3⟩ (fun hHeld=>?_)
   clear hK K;refine norm_ (a':=?_) ?_ ?_;rotate_left
   ·show Act.put _ (some 110) _=_
    simp only [Act.put,sA,sZ,sS,i64_w,i32_w]
    rfl
   refine two_ (i:=4) (j:=9) (Ni:=some 113) (Nj:=some 17) #[Y,Y,Y,Y,Y,U,U,U,U,U,U,U] #[Y,Y,Y,Y,U,U,U,U,U,Y,U,U] rfl rfl rfl rfl (two_of HT_.out (by kernel_rfl)) (by decide) (by decide) (fun K hK=>?_) (fun K hK=>?_)
   ·skip
    refine goes_ Try.func8 (by kernel_rfl) rfl #[.agg #[.int .i64 a2_0,.int .i64 a2_1,.int .i64 a2_2,.slice A2_3 l2_3.length c2_3]] (by rfl) rfl rfl (by (try simp only [List.map_toArray,List.map_cons,List.map_nil]);first|done|rfl) ?_
    with_reducible refine (to_frame k 0 (Nat.zero_le _) (below_size HB.out) (cB R3.out HB.out) N3.out E4.out).mono ?_
    rintro e wF ⟨vF3,UF_,rfl,hb,i_,y_⟩;refine ⟨_,rfl,?_⟩;replace B3:=aM (bB B3.out hb);replace B5:=aM (bB B5.out hb);replace B8:=aM (bB B8.out hb);replace B12:=aM (bB B12.out hb);replace CV:=aM (CV.out.below hb);replace COV:=aM (Kd.S_below COV.out hb);replace CG:=aM (CG.out.below hb);replace COG:=aM (Kd.S_below COG.out hb);replace CT_:=aM (CT_.out.below hb);replace HB:=aM (bS HB.out hb);have CF_:=aM y_;clear hb i_ y_;refine hK.out _ _ ⟨cI B3.out 0,cI B3.out 1,cI B3.out 2,cI B5.out 0,cI B5.out 1,cI B5.out 2,cI B5.out 3⟩ (fun hHeld=>?_)
    clear hK K;refine norm_ (a':=?_) ?_ ?_;rotate_left
    ·show Act.put _ (some 113) _=_
     simp only [Act.put,sA,sZ,sS,i64_w,i32_w]
     rfl
    refine two_ (i:=5) (j:=9) (Ni:=some 114) (Nj:=some 17) #[Y,Y,Y,Y,Y,Y,U,U,U,U,U,U] #[Y,Y,Y,Y,Y,U,U,U,U,Y,U,U] rfl rfl rfl rfl (two_of HT_.out (by kernel_rfl)) (by decide) (by decide) (fun K hK=>?_) (fun K hK=>?_)
    ·skip
     refine goes_ Try.func9 (by kernel_rfl) rfl #[.agg #[vT0,vT1,vT2],.int .i64 a1,.agg #[.int .i64 f0,.int .i64 f1,.int .i64 f2,vF3]] (by rfl) rfl rfl (by (try simp only [List.map_toArray,List.map_cons,List.map_nil]);first|done|rfl) ?_
     with_reducible refine (impl_pass k (0) (a1:=a1) (Nat.zero_le _) (below_size HB.out) CT_.out CF_.out E6.out).mono ?_
     rintro e wP ⟨vP0,vP1,vP2,vP3,UP_,UQ_,rfl,hb,i1_,i2_,d_,y1_,y2_⟩;refine ⟨_,rfl,?_⟩;replace B3:=aM (bB B3.out hb);replace B5:=aM (bB B5.out hb);replace B8:=aM (bB B8.out hb);replace B12:=aM (bB B12.out hb);replace CV:=aM (CV.out.below hb);replace COV:=aM (Kd.S_below COV.out hb);replace CG:=aM (CG.out.below hb);replace COG:=aM (Kd.S_below COG.out hb);replace CT_:=aM (CT_.out.below hb);replace CF_:=aM (kB CF_.out hb);replace HB:=aM (bS HB.out hb);have CP_:=aM y1_;have CQ_:=aM y2_;have IP_:=aM (show ∀ k_,UP_ k_→k_<wP.heap.size from fun k_ h_=>(i1_ k_ h_).2)
     have IQ_:=aM (show ∀ k_,UQ_ k_→k_<wP.heap.size from fun k_ h_=>(i2_ k_ h_).2)
     clear hb i1_ i2_ d_ y1_ y2_;refine hK.out _ _ ⟨cI B3.out 0,cI B3.out 1,cI B3.out 2,cI B5.out 0,cI B5.out 1,cI B5.out 2,cI B5.out 3⟩ (fun hHeld=>?_)
     clear hK K;refine norm_ (a':=?_) ?_ ?_;rotate_left
     ·show Act.put _ (some 114) _=_
      simp only [Act.put,sA,sZ,sS,i64_w,i32_w]
      rfl
     refine pure_ (i:=6) (N:=some 108) (v:=?_) (a':=?_) #[Y,Y,Y,Y,Y,Y,Y,U,U,U,U,U] rfl rfl (any_of HT_.out (by kernel_rfl)) (fun _ _ _ h=>h) (Or.inl ⟨by rfl,?_⟩) ?_ ?_
     rotate_left
     ·intro w'
      go_simp
      with_reducible rfl
     rotate_left
     ·simp only [Act.put,sA,sZ,sS,i64_w,i32_w]
      rfl
     refine pure_ (i:=7) (N:=some 115) (v:=?_) (a':=?_) #[Y,Y,Y,Y,Y,Y,Y,Y,U,U,U,U] rfl rfl (any_of HT_.out (by kernel_rfl)) (fun _ _ _ h=>h) (Or.inl ⟨by rfl,?_⟩) ?_ ?_
     rotate_left
     ·intro w'
      go_simp
      with_reducible rfl
     rotate_left
     ·simp only [Act.put,sA,sZ,sS,i64_w,i32_w]
      rfl
     refine pure_ (i:=8) (N:=some 116) (v:=?_) (a':=?_) #[Y,Y,Y,Y,Y,Y,Y,Y,Y,U,U,U] rfl rfl (any_of HT_.out (by kernel_rfl)) (fun _ _ _ h=>h) (Or.inl ⟨by rfl,?_⟩) ?_ ?_
     rotate_left
     ·intro w'
      go_simp
      with_reducible rfl
     rotate_left
     ·simp only [Act.put,sA,sZ,sS,i64_w,i32_w]
      rfl
     refine one_ (i:=9) (N:=some 17) #[Y,Y,Y,Y,Y,Y,Y,Y,Y,Y,U,U] rfl rfl (one_of HT_.out (by kernel_rfl)) (by decide) (fun K hK=>?_)
     refine box_step ?hg (N:=17) ?hd (cs:=#[.slice none 0 0,.slice none 0 0,.slice none 0 0]) (t:=35) ?hr ?_;(case hd=>rfl);(case hg=>rfl);(case hr=>first|(go_simp;done)|(go_simp;rfl))
     intro g17 hg wB hbox hb;have GE17:=aM (show w.heap.size≤g17 by rw [hg];exact below_size HB.out)
     have X3_17:=aM (show ¬ g3=g17 by have:=blk_lt B3.out;rw [hg];omega)
     have X5_17:=aM (show ¬ g5=g17 by have:=blk_lt B5.out;rw [hg];omega)
     have X8_17:=aM (show ¬ g8=g17 by have:=blk_lt B8.out;rw [hg];omega)
     have X12_17:=aM (show ¬ g12=g17 by have:=blk_lt B12.out;rw [hg];omega)
     have YV_17:=aM (show ¬ UV g17 from fun h_=>by have:=(IV.out g17 h_).2;have:=OM12.out;have:=blk_lt B12.out;have:=hg;omega)
     have YOV_17:=aM (show ¬ UOV g17 from fun h_=>by have:=(IOV.out g17 h_).2;have:=OM12.out;have:=blk_lt B12.out;have:=hg;omega)
     have YG_17:=aM (show ¬ UG g17 from fun h_=>by have:=(IG.out g17 h_).2;have:=OM12.out;have:=blk_lt B12.out;have:=hg;omega)
     have YOG_17:=aM (show ¬ UOG g17 from fun h_=>by have:=(IOG.out g17 h_).2;have:=OM12.out;have:=blk_lt B12.out;have:=hg;omega)
     have NP_:=aM (show ¬ UP_ g17 from fun h_=>by have:=IP_.out g17 h_;have:=hg;omega)
     replace IP_:=aM (show ∀ k_,UP_ k_→k_<wB.heap.size from fun k_ h_=>Nat.lt_of_lt_of_le (IP_.out k_ h_) (below_size hb))
     have NQ_:=aM (show ¬ UQ_ g17 from fun h_=>by have:=IQ_.out g17 h_;have:=hg;omega)
     replace IQ_:=aM (show ∀ k_,UQ_ k_→k_<wB.heap.size from fun k_ h_=>Nat.lt_of_lt_of_le (IQ_.out k_ h_) (below_size hb))
     replace B3:=aM (bB B3.out hb);replace B5:=aM (bB B5.out hb);replace B8:=aM (bB B8.out hb);replace B12:=aM (bB B12.out hb);replace CV:=aM (CV.out.below hb);replace COV:=aM (Kd.S_below COV.out hb);replace CG:=aM (CG.out.below hb);replace COG:=aM (Kd.S_below COG.out hb);replace CT_:=aM (CT_.out.below hb);replace CF_:=aM (kB CF_.out hb);replace CP_:=aM (CP_.out.below hb);replace CQ_:=aM (Kd.S_below CQ_.out hb);replace HB:=aM (bS HB.out hb);have B17:=aM hbox;clear hb hbox hg;refine hK.out _ _ ⟨cI B3.out 0,cI B3.out 1,cI B3.out 2,cI B5.out 0,cI B5.out 1,cI B5.out 2,cI B5.out 3⟩ (fun hHeld=>?_)
     clear hK K;refine norm_ (a':=?_) ?_ ?_;rotate_left
     ·show Act.put _ (some 17) _=_
      simp only [Act.put,sA,sZ,sS,i64_w,i32_w]
      rfl
     exact norm_ (by simp only [putAll,Act.put,sA,sZ,sS]) (hCont (vT0,vT1,vT2,vF3,vP0,vP1,vP2,vP3,g17) _ ⟨hHeld,⟨UP_,UQ_,IP_.out,IQ_.out,NP_.out,NQ_.out,CP_.out,CQ_.out⟩,B17.out,GE17.out,X3_17.out,X5_17.out,X8_17.out,X12_17.out,B3.out,B5.out,B8.out,B12.out,CV.out,YV_17.out,COV.out,YOV_17.out,CG.out,YG_17.out,COG.out,YOG_17.out,HB.out⟩)
    ·skip
     refine box_step ?hg (N:=17) ?hd (cs:=#[.slice none 0 0,.slice none 0 0,.slice none 0 0]) (t:=35) ?hr ?_;(case hd=>rfl);(case hg=>rfl);(case hr=>first|(go_simp;done)|(go_simp;rfl))
     intro g17 hg wB hbox hb;have GE17:=aM (show w.heap.size≤g17 by rw [hg];exact below_size HB.out)
     have X3_17:=aM (show ¬ g3=g17 by have:=blk_lt B3.out;rw [hg];omega)
     have X5_17:=aM (show ¬ g5=g17 by have:=blk_lt B5.out;rw [hg];omega)
     have X8_17:=aM (show ¬ g8=g17 by have:=blk_lt B8.out;rw [hg];omega)
     have X12_17:=aM (show ¬ g12=g17 by have:=blk_lt B12.out;rw [hg];omega)
     have YV_17:=aM (show ¬ UV g17 from fun h_=>by have:=(IV.out g17 h_).2;have:=OM12.out;have:=blk_lt B12.out;have:=hg;omega)
     have YOV_17:=aM (show ¬ UOV g17 from fun h_=>by have:=(IOV.out g17 h_).2;have:=OM12.out;have:=blk_lt B12.out;have:=hg;omega)
     have YG_17:=aM (show ¬ UG g17 from fun h_=>by have:=(IG.out g17 h_).2;have:=OM12.out;have:=blk_lt B12.out;have:=hg;omega)
     have YOG_17:=aM (show ¬ UOG g17 from fun h_=>by have:=(IOG.out g17 h_).2;have:=OM12.out;have:=blk_lt B12.out;have:=hg;omega)
     replace B3:=aM (bB B3.out hb);replace B5:=aM (bB B5.out hb);replace B8:=aM (bB B8.out hb);replace B12:=aM (bB B12.out hb);replace CV:=aM (CV.out.below hb);replace COV:=aM (Kd.S_below COV.out hb);replace CG:=aM (CG.out.below hb);replace COG:=aM (Kd.S_below COG.out hb);replace CT_:=aM (CT_.out.below hb);replace CF_:=aM (kB CF_.out hb);replace HB:=aM (bS HB.out hb);have B17:=aM hbox;clear hb hbox hg;refine hK.out _ _ ⟨cI B3.out 0,cI B3.out 1,cI B3.out 2,cI B5.out 0,cI B5.out 1,cI B5.out 2,cI B5.out 3⟩ (fun hHeld=>?_)
     clear hK K;refine norm_ (a':=?_) ?_ ?_;rotate_left
     ·show Act.put _ (some 17) _=_
      simp only [Act.put,sA,sZ,sS,i64_w,i32_w]
      rfl
     refine one_ (i:=5) (N:=some 114) #[Y,Y,Y,Y,Y,Y,U,U,U,Y,U,U] rfl rfl (one_of HT_.out (by kernel_rfl)) (by decide) (fun K hK=>?_)
     refine goes_ Try.func9 (by kernel_rfl) rfl #[.agg #[vT0,vT1,vT2],.int .i64 a1,.agg #[.int .i64 f0,.int .i64 f1,.int .i64 f2,vF3]] (by rfl) rfl rfl (by (try simp only [List.map_toArray,List.map_cons,List.map_nil]);first|done|rfl) ?_
     with_reducible refine (impl_pass k (g17+1) (a1:=a1) (Nat.succ_le_of_lt (blk_lt B17.out)) (below_size HB.out) CT_.out CF_.out E6.out).mono ?_
     rintro e wP ⟨vP0,vP1,vP2,vP3,UP_,UQ_,rfl,hb,i1_,i2_,d_,y1_,y2_⟩;refine ⟨_,rfl,?_⟩;replace B3:=aM (bB B3.out hb);replace B5:=aM (bB B5.out hb);replace B8:=aM (bB B8.out hb);replace B12:=aM (bB B12.out hb);replace B17:=aM (bB B17.out hb);replace CV:=aM (CV.out.below hb);replace COV:=aM (Kd.S_below COV.out hb);replace CG:=aM (CG.out.below hb);replace COG:=aM (Kd.S_below COG.out hb);replace CT_:=aM (CT_.out.below hb);replace CF_:=aM (kB CF_.out hb);replace HB:=aM (bS HB.out hb);have CP_:=aM y1_;have CQ_:=aM y2_;have IP_:=aM (show ∀ k_,UP_ k_→k_<wP.heap.size from fun k_ h_=>(i1_ k_ h_).2)
     have IQ_:=aM (show ∀ k_,UQ_ k_→k_<wP.heap.size from fun k_ h_=>(i2_ k_ h_).2)
     have NP_:=aM (show ¬ UP_ g17 from fun h_=>by have:=(i1_ g17 h_).1;omega)
     have NQ_:=aM (show ¬ UQ_ g17 from fun h_=>by have:=(i2_ g17 h_).1;omega)
     clear hb i1_ i2_ d_ y1_ y2_;refine hK.out _ _ ⟨cI B3.out 0,cI B3.out 1,cI B3.out 2,cI B5.out 0,cI B5.out 1,cI B5.out 2,cI B5.out 3⟩ (fun hHeld=>?_)
     clear hK K;refine norm_ (a':=?_) ?_ ?_;rotate_left
     ·show Act.put _ (some 114) _=_
      simp only [Act.put,sA,sZ,sS,i64_w,i32_w]
      rfl
     refine pure_ (i:=6) (N:=some 108) (v:=?_) (a':=?_) #[Y,Y,Y,Y,Y,Y,Y,U,U,Y,U,U] rfl rfl (any_of HT_.out (by kernel_rfl)) (fun _ _ _ h=>h) (Or.inl ⟨by rfl,?_⟩) ?_ ?_
     rotate_left
     ·intro w'
      go_simp
      with_reducible rfl
     rotate_left
     ·simp only [Act.put,sA,sZ,sS,i64_w,i32_w]
      rfl
     refine pure_ (i:=7) (N:=some 115) (v:=?_) (a':=?_) #[Y,Y,Y,Y,Y,Y,Y,Y,U,Y,U,U] rfl rfl (any_of HT_.out (by kernel_rfl)) (fun _ _ _ h=>h) (Or.inl ⟨by rfl,?_⟩) ?_ ?_
     rotate_left
     ·intro w'
      go_simp
      with_reducible rfl
     rotate_left
     ·simp only [Act.put,sA,sZ,sS,i64_w,i32_w]
      rfl
     refine pure_ (i:=8) (N:=some 116) (v:=?_) (a':=?_) #[Y,Y,Y,Y,Y,Y,Y,Y,Y,Y,U,U] rfl rfl (any_of HT_.out (by kernel_rfl)) (fun _ _ _ h=>h) (Or.inl ⟨by rfl,?_⟩) ?_ ?_
     rotate_left
     ·intro w'
      go_simp
      with_reducible rfl
     rotate_left
     ·simp only [Act.put,sA,sZ,sS,i64_w,i32_w]
      rfl
     exact norm_ (by simp only [putAll,Act.put,sA,sZ,sS]) (hCont (vT0,vT1,vT2,vF3,vP0,vP1,vP2,vP3,g17) _ ⟨hHeld,⟨UP_,UQ_,IP_.out,IQ_.out,NP_.out,NQ_.out,CP_.out,CQ_.out⟩,B17.out,GE17.out,X3_17.out,X5_17.out,X8_17.out,X12_17.out,B3.out,B5.out,B8.out,B12.out,CV.out,YV_17.out,COV.out,YOV_17.out,CG.out,YG_17.out,COG.out,YOG_17.out,HB.out⟩)
   ·skip
    refine box_step ?hg (N:=17) ?hd (cs:=#[.slice none 0 0,.slice none 0 0,.slice none 0 0]) (t:=35) ?hr ?_;(case hd=>rfl);(case hg=>rfl);(case hr=>first|(go_simp;done)|(go_simp;rfl))
    intro g17 hg wB hbox hb;have GE17:=aM (show w.heap.size≤g17 by rw [hg];exact below_size HB.out)
    have X3_17:=aM (show ¬ g3=g17 by have:=blk_lt B3.out;rw [hg];omega)
    have X5_17:=aM (show ¬ g5=g17 by have:=blk_lt B5.out;rw [hg];omega)
    have X8_17:=aM (show ¬ g8=g17 by have:=blk_lt B8.out;rw [hg];omega)
    have X12_17:=aM (show ¬ g12=g17 by have:=blk_lt B12.out;rw [hg];omega)
    have YV_17:=aM (show ¬ UV g17 from fun h_=>by have:=(IV.out g17 h_).2;have:=OM12.out;have:=blk_lt B12.out;have:=hg;omega)
    have YOV_17:=aM (show ¬ UOV g17 from fun h_=>by have:=(IOV.out g17 h_).2;have:=OM12.out;have:=blk_lt B12.out;have:=hg;omega)
    have YG_17:=aM (show ¬ UG g17 from fun h_=>by have:=(IG.out g17 h_).2;have:=OM12.out;have:=blk_lt B12.out;have:=hg;omega)
    have YOG_17:=aM (show ¬ UOG g17 from fun h_=>by have:=(IOG.out g17 h_).2;have:=OM12.out;have:=blk_lt B12.out;have:=hg;omega)
    replace B3:=aM (bB B3.out hb);replace B5:=aM (bB B5.out hb);replace B8:=aM (bB B8.out hb);replace B12:=aM (bB B12.out hb);replace CV:=aM (CV.out.below hb);replace COV:=aM (Kd.S_below COV.out hb);replace CG:=aM (CG.out.below hb);replace COG:=aM (Kd.S_below COG.out hb);replace CT_:=aM (CT_.out.below hb);replace HB:=aM (bS HB.out hb);have B17:=aM hbox;clear hb hbox hg;refine hK.out _ _ ⟨cI B3.out 0,cI B3.out 1,cI B3.out 2,cI B5.out 0,cI B5.out 1,cI B5.out 2,cI B5.out 3⟩ (fun hHeld=>?_)
    clear hK K;refine norm_ (a':=?_) ?_ ?_;rotate_left
    ·show Act.put _ (some 17) _=_
     simp only [Act.put,sA,sZ,sS,i64_w,i32_w]
     rfl
    refine one_ (i:=4) (N:=some 113) #[Y,Y,Y,Y,Y,U,U,U,U,Y,U,U] rfl rfl (one_of HT_.out (by kernel_rfl)) (by decide) (fun K hK=>?_)
    refine goes_ Try.func8 (by kernel_rfl) rfl #[.agg #[.int .i64 a2_0,.int .i64 a2_1,.int .i64 a2_2,.slice A2_3 l2_3.length c2_3]] (by rfl) rfl rfl (by (try simp only [List.map_toArray,List.map_cons,List.map_nil]);first|done|rfl) ?_
    with_reducible refine (to_frame k 0 (Nat.zero_le _) (below_size HB.out) (cB R3.out HB.out) N3.out E4.out).mono ?_
    rintro e wF ⟨vF3,UF_,rfl,hb,i_,y_⟩;refine ⟨_,rfl,?_⟩;replace B3:=aM (bB B3.out hb);replace B5:=aM (bB B5.out hb);replace B8:=aM (bB B8.out hb);replace B12:=aM (bB B12.out hb);replace B17:=aM (bB B17.out hb);replace CV:=aM (CV.out.below hb);replace COV:=aM (Kd.S_below COV.out hb);replace CG:=aM (CG.out.below hb);replace COG:=aM (Kd.S_below COG.out hb);replace CT_:=aM (CT_.out.below hb);replace HB:=aM (bS HB.out hb);have CF_:=aM y_;clear hb i_ y_;refine hK.out _ _ ⟨cI B3.out 0,cI B3.out 1,cI B3.out 2,cI B5.out 0,cI B5.out 1,cI B5.out 2,cI B5.out 3⟩ (fun hHeld=>?_)
    clear hK K;refine norm_ (a':=?_) ?_ ?_;rotate_left
    ·show Act.put _ (some 113) _=_
     simp only [Act.put,sA,sZ,sS,i64_w,i32_w]
     rfl
    refine one_ (i:=5) (N:=some 114) #[Y,Y,Y,Y,Y,Y,U,U,U,Y,U,U] rfl rfl (one_of HT_.out (by kernel_rfl)) (by decide) (fun K hK=>?_)
    refine goes_ Try.func9 (by kernel_rfl) rfl #[.agg #[vT0,vT1,vT2],.int .i64 a1,.agg #[.int .i64 f0,.int .i64 f1,.int .i64 f2,vF3]] (by rfl) rfl rfl (by (try simp only [List.map_toArray,List.map_cons,List.map_nil]);first|done|rfl) ?_
    with_reducible refine (impl_pass k (g17+1) (a1:=a1) (Nat.succ_le_of_lt (blk_lt B17.out)) (below_size HB.out) CT_.out CF_.out E6.out).mono ?_
    rintro e wP ⟨vP0,vP1,vP2,vP3,UP_,UQ_,rfl,hb,i1_,i2_,d_,y1_,y2_⟩;refine ⟨_,rfl,?_⟩;replace B3:=aM (bB B3.out hb);replace B5:=aM (bB B5.out hb);replace B8:=aM (bB B8.out hb);replace B12:=aM (bB B12.out hb);replace B17:=aM (bB B17.out hb);replace CV:=aM (CV.out.below hb);replace COV:=aM (Kd.S_below COV.out hb);replace CG:=aM (CG.out.below hb);replace COG:=aM (Kd.S_below COG.out hb);replace CT_:=aM (CT_.out.below hb);replace CF_:=aM (kB CF_.out hb);replace HB:=aM (bS HB.out hb);have CP_:=aM y1_;have CQ_:=aM y2_;have IP_:=aM (show ∀ k_,UP_ k_→k_<wP.heap.size from fun k_ h_=>(i1_ k_ h_).2)
    have IQ_:=aM (show ∀ k_,UQ_ k_→k_<wP.heap.size from fun k_ h_=>(i2_ k_ h_).2)
    have NP_:=aM (show ¬ UP_ g17 from fun h_=>by have:=(i1_ g17 h_).1;omega)
    have NQ_:=aM (show ¬ UQ_ g17 from fun h_=>by have:=(i2_ g17 h_).1;omega)
    clear hb i1_ i2_ d_ y1_ y2_;refine hK.out _ _ ⟨cI B3.out 0,cI B3.out 1,cI B3.out 2,cI B5.out 0,cI B5.out 1,cI B5.out 2,cI B5.out 3⟩ (fun hHeld=>?_)
    clear hK K;refine norm_ (a':=?_) ?_ ?_;rotate_left
    ·show Act.put _ (some 114) _=_
     simp only [Act.put,sA,sZ,sS,i64_w,i32_w]
     rfl
    refine pure_ (i:=6) (N:=some 108) (v:=?_) (a':=?_) #[Y,Y,Y,Y,Y,Y,Y,U,U,Y,U,U] rfl rfl (any_of HT_.out (by kernel_rfl)) (fun _ _ _ h=>h) (Or.inl ⟨by rfl,?_⟩) ?_ ?_
    rotate_left
    ·intro w'
     go_simp
     with_reducible rfl
    rotate_left
    ·simp only [Act.put,sA,sZ,sS,i64_w,i32_w]
     rfl
    refine pure_ (i:=7) (N:=some 115) (v:=?_) (a':=?_) #[Y,Y,Y,Y,Y,Y,Y,Y,U,Y,U,U] rfl rfl (any_of HT_.out (by kernel_rfl)) (fun _ _ _ h=>h) (Or.inl ⟨by rfl,?_⟩) ?_ ?_
    rotate_left
    ·intro w'
     go_simp
     with_reducible rfl
    rotate_left
    ·simp only [Act.put,sA,sZ,sS,i64_w,i32_w]
     rfl
    refine pure_ (i:=8) (N:=some 116) (v:=?_) (a':=?_) #[Y,Y,Y,Y,Y,Y,Y,Y,Y,Y,U,U] rfl rfl (any_of HT_.out (by kernel_rfl)) (fun _ _ _ h=>h) (Or.inl ⟨by rfl,?_⟩) ?_ ?_
    rotate_left
    ·intro w'
     go_simp
     with_reducible rfl
    rotate_left
    ·simp only [Act.put,sA,sZ,sS,i64_w,i32_w]
     rfl
    exact norm_ (by simp only [putAll,Act.put,sA,sZ,sS]) (hCont (vT0,vT1,vT2,vF3,vP0,vP1,vP2,vP3,g17) _ ⟨hHeld,⟨UP_,UQ_,IP_.out,IQ_.out,NP_.out,NQ_.out,CP_.out,CQ_.out⟩,B17.out,GE17.out,X3_17.out,X5_17.out,X8_17.out,X12_17.out,B3.out,B5.out,B8.out,B12.out,CV.out,YV_17.out,COV.out,YOV_17.out,CG.out,YG_17.out,COG.out,YOG_17.out,HB.out⟩)
  ·skip
   refine box_step ?hg (N:=17) ?hd (cs:=#[.slice none 0 0,.slice none 0 0,.slice none 0 0]) (t:=35) ?hr ?_;(case hd=>rfl);(case hg=>rfl);(case hr=>first|(go_simp;done)|(go_simp;rfl))
   intro g17 hg wB hbox hb;have GE17:=aM (show w.heap.size≤g17 by rw [hg];exact below_size HB.out)
   have X3_17:=aM (show ¬ g3=g17 by have:=blk_lt B3.out;rw [hg];omega)
   have X5_17:=aM (show ¬ g5=g17 by have:=blk_lt B5.out;rw [hg];omega)
   have X8_17:=aM (show ¬ g8=g17 by have:=blk_lt B8.out;rw [hg];omega)
   have X12_17:=aM (show ¬ g12=g17 by have:=blk_lt B12.out;rw [hg];omega)
   have YV_17:=aM (show ¬ UV g17 from fun h_=>by have:=(IV.out g17 h_).2;have:=OM12.out;have:=blk_lt B12.out;have:=hg;omega)
   have YOV_17:=aM (show ¬ UOV g17 from fun h_=>by have:=(IOV.out g17 h_).2;have:=OM12.out;have:=blk_lt B12.out;have:=hg;omega)
   have YG_17:=aM (show ¬ UG g17 from fun h_=>by have:=(IG.out g17 h_).2;have:=OM12.out;have:=blk_lt B12.out;have:=hg;omega)
   have YOG_17:=aM (show ¬ UOG g17 from fun h_=>by have:=(IOG.out g17 h_).2;have:=OM12.out;have:=blk_lt B12.out;have:=hg;omega)
   replace B3:=aM (bB B3.out hb);replace B5:=aM (bB B5.out hb);replace B8:=aM (bB B8.out hb);replace B12:=aM (bB B12.out hb);replace CV:=aM (CV.out.below hb);replace COV:=aM (Kd.S_below COV.out hb);replace CG:=aM (CG.out.below hb);replace COG:=aM (Kd.S_below COG.out hb);replace HB:=aM (bS HB.out hb);have B17:=aM hbox;clear hb hbox hg;refine hK.out _ _ ⟨cI B3.out 0,cI B3.out 1,cI B3.out 2,cI B5.out 0,cI B5.out 1,cI B5.out 2,cI B5.out 3⟩ (fun hHeld=>?_)
   clear hK K;refine norm_ (a':=?_) ?_ ?_;rotate_left
   ·show Act.put _ (some 17) _=_
    simp only [Act.put,sA,sZ,sS,i64_w,i32_w]
    rfl
   refine one_ (i:=1) (N:=some 110) #[Y,Y,Y,Y,U,U,U,U,U,Y,U,U] rfl rfl (one_of HT_.out (by kernel_rfl)) (by decide) (fun K hK=>?_)
   refine goes_ Try.func7 (by kernel_rfl) rfl #[.agg #[.slice A0_0 l0_0.length c0_0,.slice A0_1 l0_1.length c0_1,.slice A0_2 l0_2.length c0_2]] (by rfl) rfl rfl (by (try simp only [List.map_toArray,List.map_cons,List.map_nil]);first|done|rfl) ?_
   with_reducible refine (to_card k 0 (Nat.zero_le _) (below_size HB.out) (cB R0.out HB.out) N0.out (cB R1.out HB.out) N1.out (cB R2.out HB.out) N2.out E3.out).mono ?_
   rintro e wT ⟨vT0,vT1,vT2,UT_,rfl,hb,i_,y_⟩;refine ⟨_,rfl,?_⟩;replace B3:=aM (bB B3.out hb);replace B5:=aM (bB B5.out hb);replace B8:=aM (bB B8.out hb);replace B12:=aM (bB B12.out hb);replace B17:=aM (bB B17.out hb);replace CV:=aM (CV.out.below hb);replace COV:=aM (Kd.S_below COV.out hb);replace CG:=aM (CG.out.below hb);replace COG:=aM (Kd.S_below COG.out hb);replace HB:=aM (bS HB.out hb);have CT_:=aM y_;clear hb i_ y_;refine hK.out _ _ ⟨cI B3.out 0,cI B3.out 1,cI B3.out 2,cI B5.out 0,cI B5.out 1,cI B5.out 2,cI B5.out 3⟩ (fun hHeld=>?_)
   clear hK K;refine norm_ (a':=?_) ?_ ?_;rotate_left
   ·show Act.put _ (some 110) _=_
    simp only [Act.put,sA,sZ,sS,i64_w,i32_w]
    rfl
   refine one_ (i:=4) (N:=some 113) #[Y,Y,Y,Y,Y,U,U,U,U,Y,U,U] rfl rfl (one_of HT_.out (by kernel_rfl)) (by decide) (fun K hK=>?_)
   refine goes_ Try.func8 (by kernel_rfl) rfl #[.agg #[.int .i64 a2_0,.int .i64 a2_1,.int .i64 a2_2,.slice A2_3 l2_3.length c2_3]] (by rfl) rfl rfl (by (try simp only [List.map_toArray,List.map_cons,List.map_nil]);first|done|rfl) ?_
   with_reducible refine (to_frame k 0 (Nat.zero_le _) (below_size HB.out) (cB R3.out HB.out) N3.out E4.out).mono ?_
   rintro e wF ⟨vF3,UF_,rfl,hb,i_,y_⟩;refine ⟨_,rfl,?_⟩;replace B3:=aM (bB B3.out hb);replace B5:=aM (bB B5.out hb);replace B8:=aM (bB B8.out hb);replace B12:=aM (bB B12.out hb);replace B17:=aM (bB B17.out hb);replace CV:=aM (CV.out.below hb);replace COV:=aM (Kd.S_below COV.out hb);replace CG:=aM (CG.out.below hb);replace COG:=aM (Kd.S_below COG.out hb);replace CT_:=aM (CT_.out.below hb);replace HB:=aM (bS HB.out hb);have CF_:=aM y_;clear hb i_ y_;refine hK.out _ _ ⟨cI B3.out 0,cI B3.out 1,cI B3.out 2,cI B5.out 0,cI B5.out 1,cI B5.out 2,cI B5.out 3⟩ (fun hHeld=>?_)
   clear hK K;refine norm_ (a':=?_) ?_ ?_;rotate_left
   ·show Act.put _ (some 113) _=_
    simp only [Act.put,sA,sZ,sS,i64_w,i32_w]
    rfl
   refine one_ (i:=5) (N:=some 114) #[Y,Y,Y,Y,Y,Y,U,U,U,Y,U,U] rfl rfl (one_of HT_.out (by kernel_rfl)) (by decide) (fun K hK=>?_)
   refine goes_ Try.func9 (by kernel_rfl) rfl #[.agg #[vT0,vT1,vT2],.int .i64 a1,.agg #[.int .i64 f0,.int .i64 f1,.int .i64 f2,vF3]] (by rfl) rfl rfl (by (try simp only [List.map_toArray,List.map_cons,List.map_nil]);first|done|rfl) ?_
   with_reducible refine (impl_pass k (g17+1) (a1:=a1) (Nat.succ_le_of_lt (blk_lt B17.out)) (below_size HB.out) CT_.out CF_.out E6.out).mono ?_
   rintro e wP ⟨vP0,vP1,vP2,vP3,UP_,UQ_,rfl,hb,i1_,i2_,d_,y1_,y2_⟩;refine ⟨_,rfl,?_⟩;replace B3:=aM (bB B3.out hb);replace B5:=aM (bB B5.out hb);replace B8:=aM (bB B8.out hb);replace B12:=aM (bB B12.out hb);replace B17:=aM (bB B17.out hb);replace CV:=aM (CV.out.below hb);replace COV:=aM (Kd.S_below COV.out hb);replace CG:=aM (CG.out.below hb);replace COG:=aM (Kd.S_below COG.out hb);replace CT_:=aM (CT_.out.below hb);replace CF_:=aM (kB CF_.out hb);replace HB:=aM (bS HB.out hb);have CP_:=aM y1_;have CQ_:=aM y2_;have IP_:=aM (show ∀ k_,UP_ k_→k_<wP.heap.size from fun k_ h_=>(i1_ k_ h_).2)
   have IQ_:=aM (show ∀ k_,UQ_ k_→k_<wP.heap.size from fun k_ h_=>(i2_ k_ h_).2)
   have NP_:=aM (show ¬ UP_ g17 from fun h_=>by have:=(i1_ g17 h_).1;omega)
   have NQ_:=aM (show ¬ UQ_ g17 from fun h_=>by have:=(i2_ g17 h_).1;omega)
   clear hb i1_ i2_ d_ y1_ y2_;refine hK.out _ _ ⟨cI B3.out 0,cI B3.out 1,cI B3.out 2,cI B5.out 0,cI B5.out 1,cI B5.out 2,cI B5.out 3⟩ (fun hHeld=>?_)
   clear hK K;refine norm_ (a':=?_) ?_ ?_;rotate_left
   ·show Act.put _ (some 114) _=_
    simp only [Act.put,sA,sZ,sS,i64_w,i32_w]
    rfl
   refine pure_ (i:=6) (N:=some 108) (v:=?_) (a':=?_) #[Y,Y,Y,Y,Y,Y,Y,U,U,Y,U,U] rfl rfl (any_of HT_.out (by kernel_rfl)) (fun _ _ _ h=>h) (Or.inl ⟨by rfl,?_⟩) ?_ ?_
   rotate_left
   ·intro w'
    go_simp
    with_reducible rfl
   rotate_left
   ·simp only [Act.put,sA,sZ,sS,i64_w,i32_w]
    rfl
   refine pure_ (i:=7) (N:=some 115) (v:=?_) (a':=?_) #[Y,Y,Y,Y,Y,Y,Y,Y,U,Y,U,U] rfl rfl (any_of HT_.out (by kernel_rfl)) (fun _ _ _ h=>h) (Or.inl ⟨by rfl,?_⟩) ?_ ?_
   rotate_left
   ·intro w'
    go_simp
    with_reducible rfl
   rotate_left
   ·simp only [Act.put,sA,sZ,sS,i64_w,i32_w]
    rfl
   refine pure_ (i:=8) (N:=some 116) (v:=?_) (a':=?_) #[Y,Y,Y,Y,Y,Y,Y,Y,Y,Y,U,U] rfl rfl (any_of HT_.out (by kernel_rfl)) (fun _ _ _ h=>h) (Or.inl ⟨by rfl,?_⟩) ?_ ?_
   rotate_left
   ·intro w'
    go_simp
    with_reducible rfl
   rotate_left
   ·simp only [Act.put,sA,sZ,sS,i64_w,i32_w]
    rfl
   exact norm_ (by simp only [putAll,Act.put,sA,sZ,sS]) (hCont (vT0,vT1,vT2,vF3,vP0,vP1,vP2,vP3,g17) _ ⟨hHeld,⟨UP_,UQ_,IP_.out,IQ_.out,NP_.out,NQ_.out,CP_.out,CQ_.out⟩,B17.out,GE17.out,X3_17.out,X5_17.out,X8_17.out,X12_17.out,B3.out,B5.out,B8.out,B12.out,CV.out,YV_17.out,COV.out,YOV_17.out,CG.out,YG_17.out,COG.out,YOG_17.out,HB.out⟩)
 rintro ⟨vT0,vT1,vT2,vF3,vP0,vP1,vP2,vP3,g17⟩ wq ⟨hS_,⟨UH,UOH,i1_,i2_,n1_,n2_,y1_,y2_⟩,hB_,hG_,x3_,x5_,x8_,x12_,b3_,b5_,b8_,b12_,cV_,nV_,cOV_,nOV_,cG_,nG_,cOG_,nOG_,hb⟩;dsimp only at i1_ i2_ n1_ n2_ y1_ y2_ hB_ hG_ x3_ x5_ x8_ x12_ nV_ nOV_ nG_ nOG_;replace B3:=aM b3_;have X3_17:=aM x3_;replace B5:=aM b5_;have X5_17:=aM x5_;replace B8:=aM b8_;have X8_17:=aM x8_;replace B12:=aM b12_;have X12_17:=aM x12_;replace CV:=aM cV_;have YV_17:=aM nV_;replace COV:=aM cOV_;have YOV_17:=aM nOV_;replace CG:=aM cG_;have YG_17:=aM nG_;replace COG:=aM cOG_;have YOG_17:=aM nOG_;replace HB:=aM hb;have B17:=aM hB_;have GE17:=aM hG_;have CH:=aM y1_;have IH:=aM (show ∀ k_,UH k_→0≤k_∧k_<wq.heap.size from fun k_ h_=>⟨Nat.zero_le _,i1_ k_ h_⟩)
 have YH_17:=aM n1_;have COH:=aM y2_;have IOH:=aM (show ∀ k_,UOH k_→0≤k_∧k_<wq.heap.size from fun k_ h_=>⟨Nat.zero_le _,i2_ k_ h_⟩)
 have YOH_17:=aM n2_;clear hB_ hG_ hb y1_ y2_ i1_ i2_ n1_ n2_ b3_ b5_ b8_ b12_ cV_ cOV_ cG_ cOG_ nV_ nOV_ nG_ nOG_;obtain ⟨HA0,Hn0,Hc0,HA1,Hn1,Hc1,HA2,Hn2,Hc2,f0_,f1_,f2_⟩:=CH.out.forms;subst f0_;subst f1_;subst f2_;obtain ⟨OHA,OHn,OHc,f0_⟩:=S_form1 COH.out;subst f0_;have hHeld:wq.cell? ⟨g3,0,none⟩=some (.slice A0_0 l0_0.length c0_0)∧wq.cell? ⟨g3,1,none⟩=some (.slice A0_1 l0_1.length c0_1)∧wq.cell? ⟨g3,2,none⟩=some (.slice A0_2 l0_2.length c0_2)∧wq.cell? ⟨g5,0,none⟩=some (.int .i64 a2_0)∧wq.cell? ⟨g5,1,none⟩=some (.int .i64 a2_1)∧wq.cell? ⟨g5,2,none⟩=some (.int .i64 a2_2)∧wq.cell? ⟨g5,3,none⟩=some (.slice A2_3 l2_3.length c2_3):=hS_;refine norm_ (a':=?_) ?_ ?_;rotate_left
 ·simp only [putAll,Act.put,sA,sZ,sS]
  rfl
 refine one_ (i:=10) (N:=none) #[Y,Y,Y,Y,Y,Y,Y,Y,Y,Y,Y,U] rfl rfl (one_of HT_.out (by kernel_rfl)) (by decide) (fun K hK=>?_)
 have hs_0:wq.cell? ⟨g17,0,none⟩=some (.slice none 0 0):=cI B17.out 0;have hfs_0:=bF B17.out 0;have hs_1:wq.cell? ⟨g17,1,none⟩=some (.slice none 0 0):=cI B17.out 1;have hfs_1:=bF B17.out 1;have hs_2:wq.cell? ⟨g17,2,none⟩=some (.slice none 0 0):=cI B17.out 2;have hfs_2:=bF B17.out 2;have xx3_17:=X3_17.out;have yy3_17:=Ne.symm X3_17.out;have xx5_17:=X5_17.out;have yy5_17:=Ne.symm X5_17.out;have xx8_17:=X8_17.out;have yy8_17:=Ne.symm X8_17.out;have xx12_17:=X12_17.out;have yy12_17:=Ne.symm X12_17.out;refine skip_ (w1:=?_) (by rfl) rfl ?_ ?_
 rotate_left
 ·go_simp
  rfl
 refine hK.out _ _ ⟨(bC (blk_kept B3.out (fill3_kept wq g17 (.slice HA0 Hn0 Hc0) (.slice HA1 Hn1 Hc1) (.slice HA2 Hn2 Hc2)) X3_17.out) 0).trans rfl,(bC (blk_kept B3.out (fill3_kept wq g17 (.slice HA0 Hn0 Hc0) (.slice HA1 Hn1 Hc1) (.slice HA2 Hn2 Hc2)) X3_17.out) 1).trans rfl,(bC (blk_kept B3.out (fill3_kept wq g17 (.slice HA0 Hn0 Hc0) (.slice HA1 Hn1 Hc1) (.slice HA2 Hn2 Hc2)) X3_17.out) 2).trans rfl,(bC (blk_kept B5.out (fill3_kept wq g17 (.slice HA0 Hn0 Hc0) (.slice HA1 Hn1 Hc1) (.slice HA2 Hn2 Hc2)) X5_17.out) 0).trans rfl,(bC (blk_kept B5.out (fill3_kept wq g17 (.slice HA0 Hn0 Hc0) (.slice HA1 Hn1 Hc1) (.slice HA2 Hn2 Hc2)) X5_17.out) 1).trans rfl,(bC (blk_kept B5.out (fill3_kept wq g17 (.slice HA0 Hn0 Hc0) (.slice HA1 Hn1 Hc1) (.slice HA2 Hn2 Hc2)) X5_17.out) 2).trans rfl,(bC (blk_kept B5.out (fill3_kept wq g17 (.slice HA0 Hn0 Hc0) (.slice HA1 Hn1 Hc1) (.slice HA2 Hn2 Hc2)) X5_17.out) 3).trans rfl⟩ (fun hHeld=>?_)
 clear hK K;refine pure_ (i:=11) (N:=some 18) (v:=?_) (a':=?_) #[Y,Y,Y,Y,Y,Y,Y,Y,Y,Y,Y,Y] rfl rfl (any_of HT_.out (by kernel_rfl)) (fun _ _ _ h=>h) (Or.inl ⟨by rfl,?_⟩) ?_ ?_
 rotate_left
 ·intro w'
  go_simp
  with_reducible rfl
 rotate_left
 ·simp only [Act.put,sA,sZ,sS,i64_w,i32_w]
  rfl
 refine done_ (done_of HT_.out (by kernel_rfl)) ?_
 have zq_8_0:wq.cell? ⟨g8,0,none⟩=some (.slice VA0 Vn0 Vc0):=cI B8.out 0;have zq_8_1:wq.cell? ⟨g8,1,none⟩=some (.slice VA1 Vn1 Vc1):=cI B8.out 1;have zq_8_2:wq.cell? ⟨g8,2,none⟩=some (.slice VA2 Vn2 Vc2):=cI B8.out 2;have zq_17_0:wq.cell? ⟨g17,0,none⟩=some (.slice none 0 0):=cI B17.out 0;have zq_17_1:wq.cell? ⟨g17,1,none⟩=some (.slice none 0 0):=cI B17.out 1;have zq_17_2:wq.cell? ⟨g17,2,none⟩=some (.slice none 0 0):=cI B17.out 2;go_wp2_with (first|((with_reducible refine gate_callee (f:=10) rfl ?_);refine goesL_ (some 119) rfl rfl Try.func10 (by kernel_rfl) rfl #[.agg #[.slice HA0 Hn0 Hc0,.slice HA1 Hn1 Hc1,.slice HA2 Hn2 Hc2],.agg #[.slice VA0 Vn0 Vc0,.slice VA1 Vn1 Vc1,.slice VA2 Vn2 Vc2]] rfl (by (try simp only [List.map_toArray,List.map_cons,List.map_nil]);first|done|rfl) ?_;replace B3:=aM (blk_kept B3.out (fill3_kept wq g17 (.slice HA0 Hn0 Hc0) (.slice HA1 Hn1 Hc1) (.slice HA2 Hn2 Hc2)) X3_17.out);replace B5:=aM (blk_kept B5.out (fill3_kept wq g17 (.slice HA0 Hn0 Hc0) (.slice HA1 Hn1 Hc1) (.slice HA2 Hn2 Hc2)) X5_17.out);replace B8:=aM (blk_kept B8.out (fill3_kept wq g17 (.slice HA0 Hn0 Hc0) (.slice HA1 Hn1 Hc1) (.slice HA2 Hn2 Hc2)) X8_17.out);replace B12:=aM (blk_kept B12.out (fill3_kept wq g17 (.slice HA0 Hn0 Hc0) (.slice HA1 Hn1 Hc1) (.slice HA2 Hn2 Hc2)) X12_17.out);replace CV:=aM (CV.out.kept (fill3_kept wq g17 (.slice HA0 Hn0 Hc0) (.slice HA1 Hn1 Hc1) (.slice HA2 Hn2 Hc2)) (fun k_ h1_ h2_=>by subst h2_;exact YV_17.out h1_));replace COV:=aM (S_stays COV.out (fill3_kept wq g17 (.slice HA0 Hn0 Hc0) (.slice HA1 Hn1 Hc1) (.slice HA2 Hn2 Hc2)) (fun k_ h1_ h2_=>by subst h2_;exact YOV_17.out h1_));replace CG:=aM (CG.out.kept (fill3_kept wq g17 (.slice HA0 Hn0 Hc0) (.slice HA1 Hn1 Hc1) (.slice HA2 Hn2 Hc2)) (fun k_ h1_ h2_=>by subst h2_;exact YG_17.out h1_));replace COG:=aM (S_stays COG.out (fill3_kept wq g17 (.slice HA0 Hn0 Hc0) (.slice HA1 Hn1 Hc1) (.slice HA2 Hn2 Hc2)) (fun k_ h1_ h2_=>by subst h2_;exact YOG_17.out h1_));replace CH:=aM (CH.out.kept (fill3_kept wq g17 (.slice HA0 Hn0 Hc0) (.slice HA1 Hn1 Hc1) (.slice HA2 Hn2 Hc2)) (fun k_ h1_ h2_=>by subst h2_;exact YH_17.out h1_));replace COH:=aM (S_stays COH.out (fill3_kept wq g17 (.slice HA0 Hn0 Hc0) (.slice HA1 Hn1 Hc1) (.slice HA2 Hn2 Hc2)) (fun k_ h1_ h2_=>by subst h2_;exact YOH_17.out h1_));replace HB:=aM (fill3_below HB.out GE17.out (.slice HA0 Hn0 Hc0) (.slice HA1 Hn1 Hc1) (.slice HA2 Hn2 Hc2));replace B17:=aM (fill3_box B17.out (.slice HA0 Hn0 Hc0) (.slice HA1 Hn1 Hc1) (.slice HA2 Hn2 Hc2));(with_reducible refine (eq_card k CH.out CV.out E7.out).mono ?_);rintro e w30 ⟨rfl,hb⟩;refine ⟨_,rfl,?_⟩;replace B3:=aM (bB B3.out hb);replace B5:=aM (bB B5.out hb);replace B8:=aM (bB B8.out hb);replace B12:=aM (bB B12.out hb);replace B17:=aM (bB B17.out hb);replace CV:=aM (CV.out.below hb);replace COV:=aM (Kd.S_below COV.out hb);replace CG:=aM (CG.out.below hb);replace COG:=aM (Kd.S_below COG.out hb);replace CH:=aM (CH.out.below hb);replace COH:=aM (Kd.S_below COH.out hb);replace HB:=aM (bS HB.out hb);clear hb;)|(go_at_call 11;(with_reducible refine (eq_outs k COH.out COV.out E8.out).mono ?_);rintro e w31 ⟨rfl,hb⟩;replace B3:=aM (bB B3.out hb);replace B5:=aM (bB B5.out hb);replace B8:=aM (bB B8.out hb);replace B12:=aM (bB B12.out hb);replace B17:=aM (bB B17.out hb);replace CV:=aM (CV.out.below hb);replace COV:=aM (Kd.S_below COV.out hb);replace CG:=aM (CG.out.below hb);replace COG:=aM (Kd.S_below COG.out hb);replace CH:=aM (CH.out.below hb);replace COH:=aM (Kd.S_below COH.out hb);replace HB:=aM (bS HB.out hb);clear hb;have zcw31_12_0:w31.cell? ⟨g12,0,none⟩=some (.slice GA0 Gn0 Gc0):=cI B12.out 0;have zcw31_12_1:w31.cell? ⟨g12,1,none⟩=some (.slice GA1 Gn1 Gc1):=cI B12.out 1;have zcw31_12_2:w31.cell? ⟨g12,2,none⟩=some (.slice GA2 Gn2 Gc2):=cI B12.out 2)|((with_reducible refine gate_callee (f:=16) rfl ?_);refine goesL_ (some 129) rfl rfl Try.func16 (by kernel_rfl) rfl #[.agg #[.slice GA0 Gn0 Gc0,.slice GA1 Gn1 Gc1,.slice GA2 Gn2 Gc2],.int .i64 1] rfl (by (try simp only [List.map_toArray,List.map_cons,List.map_nil]);first|done|rfl) ?_;(with_reducible refine (held_card k CG.out E15.out).mono ?_);rintro e w32 ⟨rfl,hb⟩;refine ⟨_,rfl,?_⟩;replace B3:=aM (bB B3.out hb);replace B5:=aM (bB B5.out hb);replace B8:=aM (bB B8.out hb);replace B12:=aM (bB B12.out hb);replace B17:=aM (bB B17.out hb);replace CV:=aM (CV.out.below hb);replace COV:=aM (Kd.S_below COV.out hb);replace CG:=aM (CG.out.below hb);replace COG:=aM (Kd.S_below COG.out hb);replace CH:=aM (CH.out.below hb);replace COH:=aM (Kd.S_below COH.out hb);replace HB:=aM (bS HB.out hb);clear hb;)|((with_reducible refine gate_callee (f:=17) rfl ?_);refine goesL_ (some 134) rfl rfl Try.func17 (by kernel_rfl) rfl #[.slice OGA OGn OGc,.int .i64 q1] rfl (by (try simp only [List.map_toArray,List.map_cons,List.map_nil]);first|done|rfl) ?_;(with_reducible refine (held_outs k COG.out E16.out).mono ?_);rintro e w33 ⟨rfl,hb⟩;refine ⟨_,rfl,?_⟩;replace B3:=aM (bB B3.out hb);replace B5:=aM (bB B5.out hb);replace B8:=aM (bB B8.out hb);replace B12:=aM (bB B12.out hb);replace B17:=aM (bB B17.out hb);replace CV:=aM (CV.out.below hb);replace COV:=aM (Kd.S_below COV.out hb);replace CG:=aM (CG.out.below hb);replace COG:=aM (Kd.S_below COG.out hb);replace CH:=aM (CH.out.below hb);replace COH:=aM (Kd.S_below COH.out hb);replace HB:=aM (bS HB.out hb);clear hb;))
 go_ret
 exact ⟨by first|rfl|(simp [errW_none,errW_some] <;> rfl),HB.out⟩
end Go.Proofs.Ytfljolhhgheheaa.PFnExactPass
