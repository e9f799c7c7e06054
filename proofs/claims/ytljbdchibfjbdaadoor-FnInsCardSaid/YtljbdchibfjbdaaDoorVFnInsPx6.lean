/- A part of the proof of laws.FnIns. No condition beyond what its theorems say. -/
import Derived.Test.YtljbdchibfjbdaaDoorVFnInsPx5
namespace Go.Proofs.YtljbdchibfjbdaaDoor.PFnIns
open Go.RowKit Go.Proofs.YtljbdchibfjbdaaDoorW.PrintWords Go.Proofs.YtljbdchibfjbdaaDoorW.PrintLast Go.Proofs.YtljbdchibfjbdaaDoorW.PrintMore
set_option linter.unusedVariables false
set_option linter.unusedSimpArgs false

def Z77.f (a0:Bool):Option (Int):=if a0=true then (some 1) else (some 0)
set_option maxHeartbeats 60000000 in
set_option maxRecDepth 100000 in
theorem Z77.calls (a0:Bool) (r:Int) (w:World) (h:Z77.f a0=some r) :
  Calls Tryd.prog 62 #[a0] w fun e w'=>e=.returned (.int .i64 r)∧Drawn0 w w':=by
 have H:(if a0=true then (some 1) else (some 0))=some r:=h;clear h
 by_cases c2:a0=true
 case pos =>
  subst c2;replace H:=hP H rfl;obtain rfl:=Option.some.inj H;go_enter Tryd.func62,Tryd.ntmps62
  go_wp2
  go_ret
  exact ⟨by rfl,by repeat (exact Drawn0.refl _)⟩
 replace c2:=Bool.eq_false_iff.mpr c2;subst c2;replace H:=hF H;obtain rfl:=Option.some.inj H;go_enter Tryd.func62,Tryd.ntmps62
 go_wp2
 go_ret
 exact ⟨by rfl,by repeat (exact Drawn0.refl _)⟩

def Z52.f (a0:Int):Option (List Int):=some (([(Go.bits .and .i64 a0 255) % 256,(Go.bits .and .i64 (a0 / 256) 255) % 256,(Go.bits .and .i64 (a0 / 65536) 255) % 256,(Go.bits .and .i64 (a0 / 16777216) 255) % 256]:List Int))
set_option maxHeartbeats 60000000 in
set_option maxRecDepth 100000 in
theorem Z52.calls (a0:Int) (r:List Int) (w:World) (h:Z52.f a0=some r) :
  Calls Tryd.prog 63 #[a0] w fun e w'=>∃ aE:Value,e=.returned (aE)∧Kd.R (Kd.int .u8) 5 w' w.heap.size (fun _=>True) aE r∧Below w.heap.size w w':=by
 have HB:=aM (Below.refl w.heap.size w);have H:(some (([(Go.bits .and .i64 a0 255) % 256,(Go.bits .and .i64 (a0 / 256) 255) % 256,(Go.bits .and .i64 (a0 / 65536) 255) % 256,(Go.bits .and .i64 (a0 / 16777216) 255) % 256]:List Int)))=some r:=h;clear h;obtain ⟨aG,aA⟩:∃ y_:List Int,y_=(([(Go.bits .and .i64 a0 255) % 256,(Go.bits .and .i64 (a0 / 256) 255) % 256,(Go.bits .and .i64 (a0 / 65536) 255) % 256,(Go.bits .and .i64 (a0 / 16777216) 255) % 256]:List Int)):=⟨_,rfl⟩;replace H:(some aG)=some r:=by (rw [aA];with_reducible exact H)
 have aC:=aM aA;clear aA;obtain rfl:=Option.some.inj H;go_enter Tryd.func63,Tryd.ntmps63
 go_wp2_with (((with_reducible refine gD (N:=18) rfl ?_);refine Kd.R_lit (Kd.int .u8) _ 5 ?hg (N:=18) ?hd (xs:=([(Go.bits .and .i64 a0 255) % 256,(Go.bits .and .i64 (a0 / 256) 255) % 256,(Go.bits .and .i64 (a0 / 65536) 255) % 256,(Go.bits .and .i64 (a0 / 16777216) 255) % 256]:List Int)) (inner:=[.int .u8 ((Go.bits .and .i64 a0 255) % 256),.int .u8 ((Go.bits .and .i64 (a0 / 256) 255) % 256),.int .u8 ((Go.bits .and .i64 (a0 / 65536) 255) % 256),.int .u8 ((Go.bits .and .i64 (a0 / 16777216) 255) % 256)]) (ok:=fun _=>True) (okp:=fun _=>True) ?hr ?hp (fun _ hk=>hk) trivial (Below.refl _ _) (Nat.le_refl _) (by simp) ?_;(case hd=>rfl);(case hg=>rfl);(case hr=>(go_simp;done));(case hp=>exact (Reps.one (show Kd.M (Kd.int .u8) _ _ _ ((Go.bits .and .i64 a0 255) % 256) [.int .u8 ((Go.bits .and .i64 a0 255) % 256)] from rfl) (Reps.one (show Kd.M (Kd.int .u8) _ _ _ ((Go.bits .and .i64 (a0 / 256) 255) % 256) [.int .u8 ((Go.bits .and .i64 (a0 / 256) 255) % 256)] from rfl) (Reps.one (show Kd.M (Kd.int .u8) _ _ _ ((Go.bits .and .i64 (a0 / 65536) 255) % 256) [.int .u8 ((Go.bits .and .i64 (a0 / 65536) 255) % 256)] from rfl) (Reps.one (show Kd.M (Kd.int .u8) _ _ _ ((Go.bits .and .i64 (a0 / 16777216) 255) % 256) [.int .u8 ((Go.bits .and .i64 (a0 / 16777216) 255) % 256)] from rfl) (Reps.none _ _))))));intro aH w2 ho3 hb hg_ hnew_;clear hg_ hnew_;(rw [← aC.out] at ho3);have aD:=aM (Kd.R_lower ho3 (below_size (bl HB.out)));replace HB:=rS HB hb;clear hb ho3))
 go_ret
 exact ⟨_,xW,kr aD.out,bl HB.out⟩

def Z28.f (k:Nat) (aC aG aH aI aJ aK aN:Int) (aQ:Bool):Option (List Int):=(Z63.f aC aG aH aI aJ aK aN aQ).bind fun bD=>(if bD=true then ((Z19.f k (([aC,aG]:List Int))).bind fun aA=>(if aC=1 then ((Z19.f k (([aH,aI,aJ,aK,aN]:List Int))).bind fun aT=>(if aA.length+aT.length<140737488355328 then ((some (aA++aT:List Int)).bind fun aD=>((Z24.f k aD).bind fun bG=>((Z52.f bG).bind fun aV=>(if aD.length+aV.length<140737488355328 then (some (aD++aV)) else (none))))) else (none))) else (if aC=3 then ((Z77.f aQ).bind fun bH=>((Z19.f k (([bH]:List Int))).bind fun aW=>(if aA.length+aW.length<140737488355328 then ((some (aA++aW:List Int)).bind fun aE=>((Z24.f k aE).bind fun bI=>((Z52.f bI).bind fun aX=>(if aE.length+aX.length<140737488355328 then (some (aE++aX)) else (none))))) else (none)))) else ((Z24.f k aA).bind fun bJ=>((Z52.f bJ).bind fun bA=>(if aA.length+bA.length<140737488355328 then (some (aA++bA)) else (none))))))) else (some (([]:List Int))))
theorem Z28.mono:∀ a0 a1 a2 a3 a4 a5 a6 a7 k,LeO (Z28.f k a0 a1 a2 a3 a4 a5 a6 a7) (Z28.f (k+1) a0 a1 a2 a3 a4 a5 a6 a7):=by
 intro a0 a1 a2 a3 a4 a5 a6 a7 k;unfold Z28.f
 repeat' (with_reducible first|apply Z24.mono|apply Z19.mono|exact lR _|refine lI ?_ ?_|refine lB ?_ fun _=>?_)
set_option maxHeartbeats 60000000 in
set_option maxRecDepth 100000 in
theorem Z28.calls (k:Nat) (aE aH aI aJ aK aN aQ:Int) (bG:Bool) (r:List Int) (w:World) (h:Z28.f k aE aH aI aJ aK aN aQ bG=some r) :
  Calls Tryd.prog 18 #[.agg #[aE,aH,aI,aJ,aK,aN,aQ,bG]] w fun e w'=>∃ eK:Value,e=.returned (eK)∧Kd.R (Kd.int .u8) 5 w' w.heap.size (fun _=>True) eK r∧Below w.heap.size w w':=by
 have gV:=Tryd.underlying27;have HB:=aM (Below.refl w.heap.size w);have H:((Z63.f aE aH aI aJ aK aN aQ bG).bind fun cQ=>(if cQ=true then ((Z19.f k (([aE,aH]:List Int))).bind fun aG=>(if aE=1 then ((Z19.f k (([aI,aJ,aK,aN,aQ]:List Int))).bind fun bJ=>(if aG.length+bJ.length<140737488355328 then ((some (aG++bJ:List Int)).bind fun bH=>((Z24.f k bH).bind fun bU=>((Z52.f bU).bind fun bK=>(if bH.length+bK.length<140737488355328 then (some (bH++bK)) else (none))))) else (none))) else (if aE=3 then ((Z77.f bG).bind fun bT=>((Z19.f k (([bT]:List Int))).bind fun bL=>(if aG.length+bL.length<140737488355328 then ((some (aG++bL:List Int)).bind fun bI=>((Z24.f k bI).bind fun bV=>((Z52.f bV).bind fun bM=>(if bI.length+bM.length<140737488355328 then (some (bI++bM)) else (none))))) else (none)))) else ((Z24.f k aG).bind fun bX=>((Z52.f bX).bind fun bQ=>(if aG.length+bQ.length<140737488355328 then (some (aG++bQ)) else (none))))))) else (some (([]:List Int)))))=some r:=h
 clear h;obtain ⟨cQ,eL,H⟩:=hB H;have A2:=aM eL;clear eL
 by_cases c3:cQ=true
 case neg =>
  replace c3:=Bool.eq_false_iff.mpr c3;subst c3;replace H:=hF H;obtain ⟨eQ,bZ⟩:∃ y_:List Int,y_=(([]:List Int)):=⟨_,rfl⟩;replace H:(some eQ)=some r:=by (rw [bZ];with_reducible exact H)
  have cX:=aM bZ;clear bZ;obtain rfl:=Option.some.inj H;go_enter Tryd.func18,Tryd.ntmps18
  go_wp2_with (first|((with_reducible refine gD (N:=1) rfl ?_);refine bE (N:=1) (cs:=#[aE,aH,aI,aJ,aK,aN,aQ,bG]) (t:=27) ?_;intro cL hg iB hbox hb;have aA:=aM (hbox);have cN:=gF hg HB;have cO:=gF hg HB;replace HB:=rS HB hb;clear hb hbox hg;have gJ:=cA8 aA.out)|((with_reducible refine gC (f:=25) rfl ?_);refine goesL_ (some 5) rfl rfl Tryd.func25 (by kernel_rfl) rfl #[.agg #[aE,aH,aI,aJ,aK,aN,aQ,bG]] rfl xR ?_;(with_reducible refine (Z63.calls aE aH aI aJ aK aN aQ bG false _ A2.out).mono ?_);rintro e iC ⟨rfl,hb⟩;refine ⟨_,rfl,?_⟩;replace aA:=rB aA hb;replace HB:=rS HB hb;(try clear hb))|((with_reducible refine gD (N:=7) rfl ?_);refine Kd.R_lit (Kd.int .u8) _ 5 ?hg (N:=7) ?hd (xs:=([]:List Int)) (inner:=[]) (ok:=fun _=>True) (okp:=fun _=>True) ?hr ?hp (fun _ hk=>hk) trivial (Below.refl _ _) (Nat.le_refl _) (by simp) ?_;(case hd=>rfl);(case hg=>rfl);(case hr=>(go_simp;done));(case hp=>exact (Reps.none _ _));intro gW iD ho76 hb hg_ hnew_;clear hg_ hnew_;(rw [← cX.out] at ho76);have dZ:=aM (Kd.R_lower ho76 (below_size (bl HB.out)));replace aA:=rB aA hb;replace HB:=rS HB hb;clear hb ho76))
  go_ret
  exact ⟨_,xW,kr dZ.out,bl HB.out⟩
 subst c3;replace H:=hP H rfl;obtain ⟨bY,cA⟩:∃ y_:List Int,y_=(([aE,aH]:List Int)):=⟨_,rfl⟩;replace H:((Z19.f k bY).bind fun aG=>(if aE=1 then ((Z19.f k (([aI,aJ,aK,aN,aQ]:List Int))).bind fun bJ=>(if aG.length+bJ.length<140737488355328 then ((some (aG++bJ:List Int)).bind fun bH=>((Z24.f k bH).bind fun bU=>((Z52.f bU).bind fun bK=>(if bH.length+bK.length<140737488355328 then (some (bH++bK)) else (none))))) else (none))) else (if aE=3 then ((Z77.f bG).bind fun bT=>((Z19.f k (([bT]:List Int))).bind fun bL=>(if aG.length+bL.length<140737488355328 then ((some (aG++bL:List Int)).bind fun bI=>((Z24.f k bI).bind fun bV=>((Z52.f bV).bind fun bM=>(if bI.length+bM.length<140737488355328 then (some (bI++bM)) else (none))))) else (none)))) else ((Z24.f k aG).bind fun bX=>((Z52.f bX).bind fun bQ=>(if aG.length+bQ.length<140737488355328 then (some (aG++bQ)) else (none)))))))=some r:=by (rw [cA];with_reducible exact H)
 have bW:=aM cA;clear cA;obtain ⟨aG,eM,H⟩:=hB H;have A4:=aM eM;clear eM
 by_cases c5:aE=1
 case pos =>
  rw [if_pos c5] at H
  have eR:(aE == 1)=true:=beq_iff_eq.mpr c5;have eS:(aE != 1)=false:=bne_eq_false_iff_eq.mpr c5;clear c5;obtain ⟨cR,cC⟩:∃ y_:List Int,y_=(([aI,aJ,aK,aN,aQ]:List Int)):=⟨_,rfl⟩;replace H:((Z19.f k cR).bind fun bJ=>(if aG.length+bJ.length<140737488355328 then ((some (aG++bJ:List Int)).bind fun bH=>((Z24.f k bH).bind fun bU=>((Z52.f bU).bind fun bK=>(if bH.length+bK.length<140737488355328 then (some (bH++bK)) else (none))))) else (none)))=some r:=by (rw [cC];with_reducible exact H)
  have cY:=aM cC;clear cC;obtain ⟨bJ,eN,H⟩:=hB H;have A6:=aM eN;clear eN
  by_cases c7:aG.length+bJ.length<140737488355328
  case neg =>
   rw [if_neg c7] at H
   exact absurd H (by simp)
  rw [if_pos c7] at H
  have LMc7:=aM c7;clear c7;obtain ⟨bH,dA,H⟩:=hS H;have eA:=aM dA;clear dA;obtain ⟨bU,eO,H⟩:=hB H;have A8:=aM eO;clear eO;obtain ⟨bK,eP,H⟩:=hB H;have A9:=aM eP;clear eP
  by_cases dB:bH.length+bK.length<140737488355328
  case neg =>
   rw [if_neg dB] at H
   exact absurd H (by simp)
  rw [if_pos dB] at H
  have LMc10:=aM dB;clear dB;obtain ⟨eT,cD⟩:∃ y_:List Int,y_=(bH++bK):=⟨_,rfl⟩;replace H:(some eT)=some r:=by (rw [cD];with_reducible exact H)
  have eB:=aM cD;clear cD;obtain rfl:=Option.some.inj H;go_enter Tryd.func18,Tryd.ntmps18
  go_wp2_with (first|((with_reducible refine gD (N:=1) rfl ?_);refine box_event ?hg (N:=1) ?hd (cs:=#[aE,aH,aI,aJ,aK,aN,aQ,bG]) (t:=27) ?hr ?_;(case hd=>rfl);(case hg=>rfl);(case hr=>(go_simp;done));intro cL hg iE hbox hb;have aA:=aM (hbox);have cN:=gF hg HB;have cO:=gF hg HB;replace HB:=rS HB hb;clear hb hbox hg;have gK:=cA8 aA.out)|((with_reducible refine gC (f:=25) rfl ?_);refine goesL_ (some 5) rfl rfl Tryd.func25 (by kernel_rfl) rfl #[.agg #[aE,aH,aI,aJ,aK,aN,aQ,bG]] rfl xR ?_;(with_reducible refine (Z63.calls aE aH aI aJ aK aN aQ bG true _ A2.out).mono ?_);rintro e iF ⟨rfl,hb⟩;refine ⟨_,rfl,?_⟩;replace aA:=rB aA hb;replace HB:=rS HB hb;(try clear hb);have gM:=cA8 aA.out)|((with_reducible refine gD (N:=12) rfl ?_);refine Kd.R_lit (Kd.int .i64) _ 3 ?hg (N:=12) ?hd (xs:=([aE,aH]:List Int)) (inner:=[.int .i64 aE,.int .i64 aH]) (ok:=fun _=>True) (okp:=fun _=>True) ?hr ?hp (fun _ hk=>hk) trivial (Below.refl _ _) (Nat.le_refl _) (by simp) ?_;(case hd=>rfl);(case hg=>rfl);(case hr=>(go_simp;done));(case hp=>exact (Reps.one (show Kd.M (Kd.int .i64) _ _ _ aE [.int .i64 aE] from rfl) (Reps.one (show Kd.M (Kd.int .i64) _ _ _ aH [.int .i64 aH] from rfl) (Reps.none _ _))));intro dH iG ho16 hb hg_ hnew_;clear hg_ hnew_;(rw [← bW.out] at ho16);have aC:=aM (Kd.R_lower ho16 (below_size (bl HB.out)));replace aA:=rB aA hb;replace HB:=rS HB hb;clear hb ho16;obtain ⟨eU,eV,eW⟩:=Kd.R_slice aC.out;subst eW)|((with_reducible refine gC (f:=61) rfl ?_);refine goesL_ (some 13) rfl rfl Tryd.func61 (by kernel_rfl) rfl #[.slice eU bY.length eV] rfl xR ?_;(with_reducible refine (Z19.calls k _ _ bY aG _ ?side1 ?side2 A4.out).mono ?_);(case side1=>exact cM ((Kd.R_reads' aC.out).2.2));(case side2=>exact (Kd.R_reads' aC.out).2.1);rintro e iH ⟨cP,rfl,ho0,hb⟩;refine ⟨_,rfl,?_⟩;have aD:=aM (Kd.R_lower ho0 (below_size (bl HB.out)));replace aC:=rK aC hb;replace aA:=rB aA hb;replace HB:=rS HB hb;(repeat first|clear hb|clear ho0);have gO:=cA8 aA.out)|((with_reducible refine gD (N:=33) rfl ?_);refine Kd.R_lit (Kd.int .i64) _ 3 ?hg (N:=33) ?hd (xs:=([aI,aJ,aK,aN,aQ]:List Int)) (inner:=[.int .i64 aI,.int .i64 aJ,.int .i64 aK,.int .i64 aN,.int .i64 aQ]) (ok:=fun _=>True) (okp:=fun _=>True) ?hr ?hp (fun _ hk=>hk) trivial (Below.refl _ _) (Nat.le_refl _) (by simp) ?_;(case hd=>rfl);(case hg=>rfl);(case hr=>(go_simp;done));(case hp=>exact (Reps.one (show Kd.M (Kd.int .i64) _ _ _ aI [.int .i64 aI] from rfl) (Reps.one (show Kd.M (Kd.int .i64) _ _ _ aJ [.int .i64 aJ] from rfl) (Reps.one (show Kd.M (Kd.int .i64) _ _ _ aK [.int .i64 aK] from rfl) (Reps.one (show Kd.M (Kd.int .i64) _ _ _ aN [.int .i64 aN] from rfl) (Reps.one (show Kd.M (Kd.int .i64) _ _ _ aQ [.int .i64 aQ] from rfl) (Reps.none _ _)))))));intro gX iI ho21 hb hg_ hnew_;clear hg_ hnew_;(rw [← cY.out] at ho21);have aT:=aM (Kd.R_lower (Kd.R_new' ho21 (Kd.R_lt (kr aC.out))) (below_size (bl HB.out)));replace aC:=aM (Kd.R_elder' (kr aC.out) (Kd.R_base ho21) hb);replace aD:=rK aD hb;replace aA:=rB aA hb;replace HB:=rS HB hb;clear hb ho21;obtain ⟨eX,eY,eZ⟩:=Kd.R_slice aT.out;subst eZ)|((with_reducible refine gC (f:=61) rfl ?_);refine goesL_ (some 34) rfl rfl Tryd.func61 (by kernel_rfl) rfl #[.slice eX cR.length eY] rfl xR ?_;(with_reducible refine (Z19.calls k _ _ cR bJ _ ?side1 ?side2 A6.out).mono ?_);(case side1=>exact cM ((Kd.R_reads' aT.out).2.2));(case side2=>exact (Kd.R_reads' aT.out).2.1);rintro e iJ ⟨gY,rfl,ho0,hb⟩;refine ⟨_,rfl,?_⟩;have aV:=aM (Kd.R_lower (Kd.R_new' ho0 (Kd.R_lt (kr aD.out))) (below_size (bl HB.out)));replace aC:=rK aC hb;replace aD:=aM (Kd.R_elder' (kr aD.out) (Kd.R_base ho0) hb);replace aT:=rK aT hb;replace aA:=rB aA hb;replace HB:=rS HB hb;(repeat first|clear hb|clear ho0);obtain ⟨cS,cT,fA⟩:=Kd.R_slice aV.out;subst fA)|((with_reducible refine gate_builtin (b:=.append) (xs:=#[.tmp 18,.tmp 34]) rfl ?_);at_builtin;refine Kd.R_append_rows (Kd.int .u8) (w0:=w) w.heap.size rfl (.tmp 18) (.tmp 34) 22 5 (.int .u8 0) 1 rfl Tryd.underlying22 info5 rfl (by decide) (by omega) cP aG bJ _ _ _ (fun k_=>some k_≠(.slice cS bJ.length cT:Value).ownBlock) (fun _=>False) rfl rfl ?aO ?aR (fun _ _ h=>h) (fun _ h=>h.elim) ?aF ?aB ?aS ?aL ?_;(case aR=>repeat (exact (Kd.R_reads' aV.out).2.2));(case aB=>exact (bl HB.out));(case aF=>exact (fun k_ hk=>Kd.fresh' (Kd.R_lt (kr aV.out)) k_ hk));(case aO=>exact (kr (Kd.R_mono aD.out (fun _ hk=>hk.2))));(case aS=>exact (below_size (bl HB.out)));(case aL=>have:=LMc7.out;omega);intro gZ iK ho hb hg hat;rw [← eA.out] at ho;have aW:=aM (ho);replace aA:=aM (blk_grown (bk aA.out) hg (Kd.R_ne aD.out aA.out (by decide)));replace aC:=aM (Kd.R_over' (kr aC.out) (Kd.R_typed (kr aD.out)) (by decide) hg);replace aT:=aM (Kd.R_over' (kr aT.out) (Kd.R_typed (kr aD.out)) (by decide) hg);replace aV:=aM (Kd.R_after (ok:=(fun _=>True)) (kr aV.out) hg hat);replace HB:=aM (hb);clear aD;clear ho hb hg hat;obtain ⟨dI,dJ,fB⟩:=Kd.R_slice aW.out;subst fB)|((with_reducible refine gC (f:=37) rfl ?_);refine goesL_ (some 47) rfl rfl Tryd.func37 (by kernel_rfl) rfl #[.slice dI bH.length dJ] rfl xR ?_;(with_reducible refine (Z24.calls k _ _ bH bU _ ?side1 ?side2 A8.out).mono ?_);(case side1=>exact cM ((Kd.R_reads' aW.out).2.2));(case side2=>exact (Kd.R_reads' aW.out).2.1);rintro e w' ⟨rfl,⟨nd,rfl⟩⟩;refine ⟨_,rfl,?_⟩)|((with_reducible refine gC (f:=63) rfl ?_);refine goesL_ (some 48) rfl rfl Tryd.func63 (by kernel_rfl) rfl #[bU] rfl xR ?_;(with_reducible refine (Z52.calls bU bK _ A9.out).mono ?_);rintro e iL ⟨hD,rfl,ho0,hb⟩;refine ⟨_,rfl,?_⟩;have bN:=aM (Kd.R_lower (Kd.R_new' (Kd.R_new' ho0 (Kd.R_lt (kr aV.out))) (Kd.R_lt (kr aW.out))) (below_size (bl HB.out)));replace aC:=rK aC hb;replace aT:=rK aT hb;replace aV:=aM (Kd.R_elder' (kr aV.out) (Kd.R_base ho0) hb);replace aW:=aM (Kd.R_elder' (kr aW.out) (Kd.R_base ho0) hb);replace aA:=rB aA hb;replace HB:=rS HB hb;(repeat first|clear hb|clear ho0);obtain ⟨dK,dL,fC⟩:=Kd.R_slice bN.out;subst fC)|((with_reducible refine gate_builtin (b:=.append) (xs:=#[.tmp 45,.tmp 48]) rfl ?_);at_builtin;refine Kd.R_append_rows (Kd.int .u8) (w0:=w) w.heap.size rfl (.tmp 45) (.tmp 48) 22 5 (.int .u8 0) 1 rfl Tryd.underlying22 info5 rfl (by decide) (by omega) (.slice dI bH.length dJ) bH bK _ _ _ (fun k_=>some k_≠(.slice cS bJ.length cT:Value).ownBlock∧some k_≠(.slice dK bK.length dL:Value).ownBlock) (fun _=>False) rfl rfl ?aO ?aR (fun _ _ h=>h) (fun _ h=>h.elim) ?aF ?aB ?aS ?aL ?_;(case aR=>repeat (exact (Kd.R_reads' bN.out).2.2));(case aB=>exact (bl HB.out));(case aF=>exact (fun k_ hk=>⟨Kd.fresh' (Kd.R_lt (kr aV.out)) k_ hk,Kd.fresh' (Kd.R_lt (kr bN.out)) k_ hk⟩));(case aO=>exact (kr aW.out));(case aS=>exact (below_size (bl HB.out)));(case aL=>have:=LMc10.out;omega);intro hH iM ho hb hg hat;rw [← eB.out] at ho;have eC:=aM (ho);replace aA:=aM (blk_grown (bk aA.out) hg (Kd.R_ne aW.out aA.out (by decide)));replace aC:=aM (Kd.R_over' (kr aC.out) (Kd.R_typed (kr aW.out)) (by decide) hg);replace aT:=aM (Kd.R_over' (kr aT.out) (Kd.R_typed (kr aW.out)) (by decide) hg);replace aV:=aM (Kd.R_after (ok:=(fun k_=>some k_≠(.slice dK bK.length dL:Value).ownBlock)) (kr (Kd.R_mono aV.out (fun _ hk=>⟨hk.2,hk.1.2⟩))) hg hat);replace bN:=aM (Kd.R_after (ok:=(fun k_=>some k_≠(.slice cS bJ.length cT:Value).ownBlock)) (kr (Kd.R_mono bN.out (fun _ hk=>⟨hk.1.2,hk.2⟩))) hg hat);replace HB:=aM (hb);clear aW;clear ho hb hg hat))
  go_ret
  exact ⟨_,xW,kr (Kd.R_mono eC.out (fun _ hk=>trivial)),bl HB.out⟩
 rw [if_neg c5] at H
 have eR:(aE == 1)=false:=beq_eq_false_iff_ne.mpr c5;have eS:(aE != 1)=true:=bne_iff_ne.mpr c5
 by_cases cK:aE=3
 case neg =>
  rw [if_neg cK] at H
  have eD:(aE == 3)=false:=beq_eq_false_iff_ne.mpr cK;have eE:(aE != 3)=true:=bne_iff_ne.mpr cK;obtain ⟨bX,dM,H⟩:=hB H;have fX:=aM dM;clear dM;obtain ⟨bQ,dN,H⟩:=hB H;have fY:=aM dN;clear dN
  by_cases dC:aG.length+bQ.length<140737488355328
  case neg =>
   rw [if_neg dC] at H
   exact absurd H (by simp)
  rw [if_pos dC] at H
  have LMc58:=aM dC;clear dC;obtain ⟨fD,cE⟩:∃ y_:List Int,y_=(aG++bQ):=⟨_,rfl⟩;replace H:(some fD)=some r:=by (rw [cE];with_reducible exact H)
  have eF:=aM cE;clear cE;obtain rfl:=Option.some.inj H;go_enter Tryd.func18,Tryd.ntmps18
  go_wp2_with (first|((with_reducible refine gD (N:=1) rfl ?_);refine box_event ?hg (N:=1) ?hd (cs:=#[aE,aH,aI,aJ,aK,aN,aQ,bG]) (t:=27) ?hr ?_;(case hd=>rfl);(case hg=>rfl);(case hr=>(go_simp;done));intro cL hg iN hbox hb;have aA:=aM (hbox);have cN:=gF hg HB;have cO:=gF hg HB;replace HB:=rS HB hb;clear hb hbox hg;have gP:=cA8 aA.out)|((with_reducible refine gC (f:=25) rfl ?_);refine goesL_ (some 5) rfl rfl Tryd.func25 (by kernel_rfl) rfl #[.agg #[aE,aH,aI,aJ,aK,aN,aQ,bG]] rfl xR ?_;(with_reducible refine (Z63.calls aE aH aI aJ aK aN aQ bG true _ A2.out).mono ?_);rintro e iO ⟨rfl,hb⟩;refine ⟨_,rfl,?_⟩;replace aA:=rB aA hb;replace HB:=rS HB hb;(try clear hb);have gQ:=cA8 aA.out)|((with_reducible refine gD (N:=12) rfl ?_);refine Kd.R_lit (Kd.int .i64) _ 3 ?hg (N:=12) ?hd (xs:=([aE,aH]:List Int)) (inner:=[.int .i64 aE,.int .i64 aH]) (ok:=fun _=>True) (okp:=fun _=>True) ?hr ?hp (fun _ hk=>hk) trivial (Below.refl _ _) (Nat.le_refl _) (by simp) ?_;(case hd=>rfl);(case hg=>rfl);(case hr=>(go_simp;done));(case hp=>exact (Reps.one (show Kd.M (Kd.int .i64) _ _ _ aE [.int .i64 aE] from rfl) (Reps.one (show Kd.M (Kd.int .i64) _ _ _ aH [.int .i64 aH] from rfl) (Reps.none _ _))));intro dH iP ho64 hb hg_ hnew_;clear hg_ hnew_;(rw [← bW.out] at ho64);have aC:=aM (Kd.R_lower ho64 (below_size (bl HB.out)));replace aA:=rB aA hb;replace HB:=rS HB hb;clear hb ho64;obtain ⟨fE,fF,fG⟩:=Kd.R_slice aC.out;subst fG)|((with_reducible refine gC (f:=61) rfl ?_);refine goesL_ (some 13) rfl rfl Tryd.func61 (by kernel_rfl) rfl #[.slice fE bY.length fF] rfl xR ?_;(with_reducible refine (Z19.calls k _ _ bY aG _ ?side1 ?side2 A4.out).mono ?_);(case side1=>exact cM ((Kd.R_reads' aC.out).2.2));(case side2=>exact (Kd.R_reads' aC.out).2.1);rintro e iQ ⟨cP,rfl,ho0,hb⟩;refine ⟨_,rfl,?_⟩;have aD:=aM (Kd.R_lower ho0 (below_size (bl HB.out)));replace aC:=rK aC hb;replace aA:=rB aA hb;replace HB:=rS HB hb;(repeat first|clear hb|clear ho0);have gR:=cA8 aA.out;obtain ⟨dO,dP,fH⟩:=Kd.R_slice aD.out;subst fH)|((with_reducible refine gC (f:=37) rfl ?_);refine goesL_ (some 47) rfl rfl Tryd.func37 (by kernel_rfl) rfl #[.slice dO aG.length dP] rfl xR ?_;(with_reducible refine (Z24.calls k _ _ aG bX _ ?side1 ?side2 fX.out).mono ?_);(case side1=>exact cM ((Kd.R_reads' aD.out).2.2));(case side2=>exact (Kd.R_reads' aD.out).2.1);rintro e w' ⟨rfl,⟨nd,rfl⟩⟩;refine ⟨_,rfl,?_⟩)|((with_reducible refine gC (f:=63) rfl ?_);refine goesL_ (some 48) rfl rfl Tryd.func63 (by kernel_rfl) rfl #[bX] rfl xR ?_;(with_reducible refine (Z52.calls bX bQ _ fY.out).mono ?_);rintro e iR ⟨hJ,rfl,ho0,hb⟩;refine ⟨_,rfl,?_⟩;have bP:=aM (Kd.R_lower (Kd.R_new' ho0 (Kd.R_lt (kr aD.out))) (below_size (bl HB.out)));replace aC:=rK aC hb;replace aD:=aM (Kd.R_elder' (kr aD.out) (Kd.R_base ho0) hb);replace aA:=rB aA hb;replace HB:=rS HB hb;(repeat first|clear hb|clear ho0);obtain ⟨fI,fK,fL⟩:=Kd.R_slice bP.out;subst fL)|((with_reducible refine gate_builtin (b:=.append) (xs:=#[.tmp 45,.tmp 48]) rfl ?_);at_builtin;refine Kd.R_append_rows (Kd.int .u8) (w0:=w) w.heap.size rfl (.tmp 45) (.tmp 48) 22 5 (.int .u8 0) 1 rfl Tryd.underlying22 info5 rfl (by decide) (by omega) (.slice dO aG.length dP) aG bQ _ _ _ (fun k_=>some k_≠(.slice fI bQ.length fK:Value).ownBlock) (fun _=>False) rfl rfl ?aO ?aR (fun _ _ h=>h) (fun _ h=>h.elim) ?aF ?aB ?aS ?aL ?_;(case aR=>repeat (exact (Kd.R_reads' bP.out).2.2));(case aB=>exact (bl HB.out));(case aF=>exact (fun k_ hk=>Kd.fresh' (Kd.R_lt (kr bP.out)) k_ hk));(case aO=>exact (kr (Kd.R_mono aD.out (fun _ hk=>hk.2))));(case aS=>exact (below_size (bl HB.out)));(case aL=>have:=LMc58.out;omega);intro hO iS ho hb hg hat;rw [← eF.out] at ho;have eG:=aM (ho);replace aA:=aM (blk_grown (bk aA.out) hg (Kd.R_ne aD.out aA.out (by decide)));replace aC:=aM (Kd.R_over' (kr aC.out) (Kd.R_typed (kr aD.out)) (by decide) hg);replace bP:=aM (Kd.R_after (ok:=(fun _=>True)) (kr bP.out) hg hat);replace HB:=aM (hb);clear aD;clear ho hb hg hat))
  go_ret
  exact ⟨_,xW,kr (Kd.R_mono eG.out (fun _ hk=>trivial)),bl HB.out⟩
 rw [if_pos cK] at H
 have eD:(aE == 3)=true:=beq_iff_eq.mpr cK;have eE:(aE != 3)=false:=bne_eq_false_iff_eq.mpr cK;clear cK;obtain ⟨bT,dQ,H⟩:=hB H;have gA:=aM dQ;clear dQ;obtain ⟨cU,cG⟩:∃ y_:List Int,y_=(([bT]:List Int)):=⟨_,rfl⟩;replace H:((Z19.f k cU).bind fun bL=>(if aG.length+bL.length<140737488355328 then ((some (aG++bL:List Int)).bind fun bI=>((Z24.f k bI).bind fun bV=>((Z52.f bV).bind fun bM=>(if bI.length+bM.length<140737488355328 then (some (bI++bM)) else (none))))) else (none)))=some r:=by (rw [cG];with_reducible exact H)
 have dD:=aM cG;clear cG;obtain ⟨bL,dR,H⟩:=hB H;have gB:=aM dR;clear dR
 by_cases dE:aG.length+bL.length<140737488355328
 case neg =>
  rw [if_neg dE] at H
  exact absurd H (by simp)
 rw [if_pos dE] at H
 have LMc33:=aM dE;clear dE;obtain ⟨bI,dF,H⟩:=hS H;have eH:=aM dF;clear dF;obtain ⟨bV,dS,H⟩:=hB H;have gG:=aM dS;clear dS;obtain ⟨bM,dU,H⟩:=hB H;have gH:=aM dU;clear dU
 by_cases dG:bI.length+bM.length<140737488355328
 case neg =>
  rw [if_neg dG] at H
  exact absurd H (by simp)
 rw [if_pos dG] at H
 have LMc36:=aM dG;clear dG;obtain ⟨fM,cH⟩:∃ y_:List Int,y_=(bI++bM):=⟨_,rfl⟩;replace H:(some fM)=some r:=by (rw [cH];with_reducible exact H)
 have eI:=aM cH;clear cH;obtain rfl:=Option.some.inj H;go_enter Tryd.func18,Tryd.ntmps18
 go_wp2_with (first|((with_reducible refine gD (N:=1) rfl ?_);refine box_event ?hg (N:=1) ?hd (cs:=#[aE,aH,aI,aJ,aK,aN,aQ,bG]) (t:=27) ?hr ?_;(case hd=>rfl);(case hg=>rfl);(case hr=>(go_simp;done));intro cL hg iT hbox hb;have aA:=aM (hbox);have cN:=gF hg HB;have cO:=gF hg HB;replace HB:=rS HB hb;clear hb hbox hg;have gS:=cA8 aA.out)|((with_reducible refine gC (f:=25) rfl ?_);refine goesL_ (some 5) rfl rfl Tryd.func25 (by kernel_rfl) rfl #[.agg #[aE,aH,aI,aJ,aK,aN,aQ,bG]] rfl xR ?_;(with_reducible refine (Z63.calls aE aH aI aJ aK aN aQ bG true _ A2.out).mono ?_);rintro e iU ⟨rfl,hb⟩;refine ⟨_,rfl,?_⟩;replace aA:=rB aA hb;replace HB:=rS HB hb;(try clear hb);have gT:=cA8 aA.out)|((with_reducible refine gD (N:=12) rfl ?_);refine Kd.R_lit (Kd.int .i64) _ 3 ?hg (N:=12) ?hd (xs:=([aE,aH]:List Int)) (inner:=[.int .i64 aE,.int .i64 aH]) (ok:=fun _=>True) (okp:=fun _=>True) ?hr ?hp (fun _ hk=>hk) trivial (Below.refl _ _) (Nat.le_refl _) (by simp) ?_;(case hd=>rfl);(case hg=>rfl);(case hr=>(go_simp;done));(case hp=>exact (Reps.one (show Kd.M (Kd.int .i64) _ _ _ aE [.int .i64 aE] from rfl) (Reps.one (show Kd.M (Kd.int .i64) _ _ _ aH [.int .i64 aH] from rfl) (Reps.none _ _))));intro dH iV ho42 hb hg_ hnew_;clear hg_ hnew_;(rw [← bW.out] at ho42);have aC:=aM (Kd.R_lower ho42 (below_size (bl HB.out)));replace aA:=rB aA hb;replace HB:=rS HB hb;clear hb ho42;obtain ⟨fN,fO,fP⟩:=Kd.R_slice aC.out;subst fP)|((with_reducible refine gC (f:=61) rfl ?_);refine goesL_ (some 13) rfl rfl Tryd.func61 (by kernel_rfl) rfl #[.slice fN bY.length fO] rfl xR ?_;(with_reducible refine (Z19.calls k _ _ bY aG _ ?side1 ?side2 A4.out).mono ?_);(case side1=>exact cM ((Kd.R_reads' aC.out).2.2));(case side2=>exact (Kd.R_reads' aC.out).2.1);rintro e iW ⟨cP,rfl,ho0,hb⟩;refine ⟨_,rfl,?_⟩;have aD:=aM (Kd.R_lower ho0 (below_size (bl HB.out)));replace aC:=rK aC hb;replace aA:=rB aA hb;replace HB:=rS HB hb;(repeat first|clear hb|clear ho0);have gU:=cA8 aA.out)|((with_reducible refine gC (f:=62) rfl ?_);refine goesL_ (some 41) rfl rfl Tryd.func62 (by kernel_rfl) rfl #[bG] rfl xR ?_;(with_reducible refine (Z77.calls bG bT _ gA.out).mono ?_);rintro e w' ⟨rfl,⟨nd,rfl⟩⟩;refine ⟨_,rfl,?_⟩)|((with_reducible refine gD (N:=42) rfl ?_);refine Kd.R_lit (Kd.int .i64) _ 3 ?hg (N:=42) ?hd (xs:=([bT]:List Int)) (inner:=[.int .i64 bT]) (ok:=fun _=>True) (okp:=fun _=>True) ?hr ?hp (fun _ hk=>hk) trivial (Below.refl _ _) (Nat.le_refl _) (by simp) ?_;(case hd=>rfl);(case hg=>rfl);(case hr=>(go_simp;done));(case hp=>exact (Reps.one (show Kd.M (Kd.int .i64) _ _ _ bT [.int .i64 bT] from rfl) (Reps.none _ _)));intro hU iX ho47 hb hg_ hnew_;clear hg_ hnew_;(rw [← dD.out] at ho47);have aX:=aM (Kd.R_lower (Kd.R_new' ho47 (Kd.R_lt (kr aC.out))) (below_size (bl HB.out)));replace aC:=aM (Kd.R_elder' (kr aC.out) (Kd.R_base ho47) hb);replace aD:=rK aD hb;replace aA:=rB aA hb;replace HB:=rS HB hb;clear hb ho47;obtain ⟨fQ,fS,fT⟩:=Kd.R_slice aX.out;subst fT)|((with_reducible refine gC (f:=61) rfl ?_);refine goesL_ (some 43) rfl rfl Tryd.func61 (by kernel_rfl) rfl #[.slice fQ cU.length fS] rfl xR ?_;(with_reducible refine (Z19.calls k _ _ cU bL _ ?side1 ?side2 gB.out).mono ?_);(case side1=>exact cM ((Kd.R_reads' aX.out).2.2));(case side2=>exact (Kd.R_reads' aX.out).2.1);rintro e iY ⟨hX,rfl,ho0,hb⟩;refine ⟨_,rfl,?_⟩;have bA:=aM (Kd.R_lower (Kd.R_new' ho0 (Kd.R_lt (kr aD.out))) (below_size (bl HB.out)));replace aC:=rK aC hb;replace aD:=aM (Kd.R_elder' (kr aD.out) (Kd.R_base ho0) hb);replace aX:=rK aX hb;replace aA:=rB aA hb;replace HB:=rS HB hb;(repeat first|clear hb|clear ho0);obtain ⟨cV,cW,fU⟩:=Kd.R_slice bA.out;subst fU)|((with_reducible refine gate_builtin (b:=.append) (xs:=#[.tmp 38,.tmp 43]) rfl ?_);at_builtin;refine Kd.R_append_rows (Kd.int .u8) (w0:=w) w.heap.size rfl (.tmp 38) (.tmp 43) 22 5 (.int .u8 0) 1 rfl Tryd.underlying22 info5 rfl (by decide) (by omega) cP aG bL _ _ _ (fun k_=>some k_≠(.slice cV bL.length cW:Value).ownBlock) (fun _=>False) rfl rfl ?aO ?aR (fun _ _ h=>h) (fun _ h=>h.elim) ?aF ?aB ?aS ?aL ?_;(case aR=>repeat (exact (Kd.R_reads' bA.out).2.2));(case aB=>exact (bl HB.out));(case aF=>exact (fun k_ hk=>Kd.fresh' (Kd.R_lt (kr bA.out)) k_ hk));(case aO=>exact (kr (Kd.R_mono aD.out (fun _ hk=>hk.2))));(case aS=>exact (below_size (bl HB.out)));(case aL=>have:=LMc33.out;omega);intro hY iZ ho hb hg hat;rw [← eH.out] at ho;have bD:=aM (ho);replace aA:=aM (blk_grown (bk aA.out) hg (Kd.R_ne aD.out aA.out (by decide)));replace aC:=aM (Kd.R_over' (kr aC.out) (Kd.R_typed (kr aD.out)) (by decide) hg);replace aX:=aM (Kd.R_over' (kr aX.out) (Kd.R_typed (kr aD.out)) (by decide) hg);replace bA:=aM (Kd.R_after (ok:=(fun _=>True)) (kr bA.out) hg hat);replace HB:=aM (hb);clear aD;clear ho hb hg hat;obtain ⟨dV,dW,fV⟩:=Kd.R_slice bD.out;subst fV)|((with_reducible refine gC (f:=37) rfl ?_);refine goesL_ (some 47) rfl rfl Tryd.func37 (by kernel_rfl) rfl #[.slice dV bI.length dW] rfl xR ?_;(with_reducible refine (Z24.calls k _ _ bI bV _ ?side1 ?side2 gG.out).mono ?_);(case side1=>exact cM ((Kd.R_reads' bD.out).2.2));(case side2=>exact (Kd.R_reads' bD.out).2.1);rintro e w' ⟨rfl,⟨nd,rfl⟩⟩;refine ⟨_,rfl,?_⟩)|((with_reducible refine gC (f:=63) rfl ?_);refine goesL_ (some 48) rfl rfl Tryd.func63 (by kernel_rfl) rfl #[bV] rfl xR ?_;(with_reducible refine (Z52.calls bV bM _ gH.out).mono ?_);rintro e jA ⟨hZ,rfl,ho0,hb⟩;refine ⟨_,rfl,?_⟩;have bO:=aM (Kd.R_lower (Kd.R_new' (Kd.R_new' ho0 (Kd.R_lt (kr bA.out))) (Kd.R_lt (kr bD.out))) (below_size (bl HB.out)));replace aC:=rK aC hb;replace aX:=rK aX hb;replace bA:=aM (Kd.R_elder' (kr bA.out) (Kd.R_base ho0) hb);replace bD:=aM (Kd.R_elder' (kr bD.out) (Kd.R_base ho0) hb);replace aA:=rB aA hb;replace HB:=rS HB hb;(repeat first|clear hb|clear ho0);obtain ⟨dX,dY,fW⟩:=Kd.R_slice bO.out;subst fW)|((with_reducible refine gate_builtin (b:=.append) (xs:=#[.tmp 45,.tmp 48]) rfl ?_);at_builtin;refine Kd.R_append_rows (Kd.int .u8) (w0:=w) w.heap.size rfl (.tmp 45) (.tmp 48) 22 5 (.int .u8 0) 1 rfl Tryd.underlying22 info5 rfl (by decide) (by omega) (.slice dV bI.length dW) bI bM _ _ _ (fun k_=>some k_≠(.slice cV bL.length cW:Value).ownBlock∧some k_≠(.slice dX bM.length dY:Value).ownBlock) (fun _=>False) rfl rfl ?aO ?aR (fun _ _ h=>h) (fun _ h=>h.elim) ?aF ?aB ?aS ?aL ?_;(case aR=>repeat (exact (Kd.R_reads' bO.out).2.2));(case aB=>exact (bl HB.out));(case aF=>exact (fun k_ hk=>⟨Kd.fresh' (Kd.R_lt (kr bA.out)) k_ hk,Kd.fresh' (Kd.R_lt (kr bO.out)) k_ hk⟩));(case aO=>exact (kr bD.out));(case aS=>exact (below_size (bl HB.out)));(case aL=>have:=LMc36.out;omega);intro iA jB ho hb hg hat;rw [← eI.out] at ho;have eJ:=aM (ho);replace aA:=aM (blk_grown (bk aA.out) hg (Kd.R_ne bD.out aA.out (by decide)));replace aC:=aM (Kd.R_over' (kr aC.out) (Kd.R_typed (kr bD.out)) (by decide) hg);replace aX:=aM (Kd.R_over' (kr aX.out) (Kd.R_typed (kr bD.out)) (by decide) hg);replace bA:=aM (Kd.R_after (ok:=(fun k_=>some k_≠(.slice dX bM.length dY:Value).ownBlock)) (kr (Kd.R_mono bA.out (fun _ hk=>⟨hk.2,hk.1.2⟩))) hg hat);replace bO:=aM (Kd.R_after (ok:=(fun k_=>some k_≠(.slice cV bL.length cW:Value).ownBlock)) (kr (Kd.R_mono bO.out (fun _ hk=>⟨hk.1.2,hk.2⟩))) hg hat);replace HB:=aM (hb);clear bD;clear ho hb hg hat))
 go_ret
 exact ⟨_,xW,kr (Kd.R_mono eJ.out (fun _ hk=>trivial)),bl HB.out⟩

def Z67.f (aE:List Int) (aK aN:Int) (l1:List Int):Option (List Int × Int × Int):=(Z3.f aE aK aN (wrap64 ((l1.length:Int)+1))).bind fun aA=>((Z3.f aE aA.2.1 aA.2.2 5).bind fun aC=>(if aC.1=0 then (none) else (if aC.1=1 then ((some (([]:List Int):List Int)).bind fun aG=>(if 0≤aA.1 then (if aA.1≤(l1.length:Int) then (if aG.length+(l1.take (aA.1:Int).toNat).length<140737488355328 then ((some (aG++(l1.take (aA.1:Int).toNat):List Int)).bind fun aH=>((Z18.f aE aC.2.1 aC.2.2 (([0,1,128,3]:List Int))).bind fun aD=>((some (([(aD.1) % 256]:List Int):List Int)).bind fun aI=>(if aI.length+(l1.drop (aA.1:Int).toNat).length<140737488355328 then ((some (aI++(l1.drop (aA.1:Int).toNat):List Int)).bind fun aJ=>(if aH.length+aJ.length<140737488355328 then (some ((aH++aJ),aD.2.1,aD.2.2)) else (none))) else (none))))) else (none)) else (none)) else (none))) else (none))))
theorem l2Dent_len {α:Type} {d:Kd α} {w:World} {A:Option Addr} {n m:Nat} {xs:List α} (e:n=m) (h:d.C w A n xs):d.C w A m xs:=e ▸ h
def Z67.T6:Bool × List (List Nat × List Nat):=(true,[([],[]),([],[]),([],[]),([1,2],[1,2]),([0,3],[0,3]),([],[]),([],[]),([5,6,4],[5,6]),([7],[7]),([8],[8]),([],[]),([],[]),([10,11],[10,11]),([9,12,7],[9,12]),([4,13,13],[4,13]),([14,14,0,1,2,3,4,5,6,7,8,9,10,11,12,13,14],[14])])
def Z67.B6:List Nat:=[0,0,0,6,15,0,0,127,255,511,0,0,3072,8191,16383,32767]
theorem Z67.tab6:rtab .any (opsOf Tryd.f48 6)=Z67.T6:=by kernel_rfl
theorem Z67.bits6:waitsOk Z67.T6.2 Z67.B6=true:=by kernel_rfl
set_option maxHeartbeats 60000000 in
set_option maxRecDepth 100000 in
theorem Z67.calls (g:Nat) (aH:List Int) (bU bV:Int) (A1:Option Addr) (c1:Nat) (l1:List Int) (r1:List Int) (r2 r3:Int) (w0 w:World) (hI:IsS96 w0 w g aH bU bV) (hB:Below w0.heap.size w0 w) (hr1:Kd.C (Kd.int .u8) w A1 l1.length l1) (hc1:l1.length≤c1) (dC:∀ ad,A1=some ad→0<l1.length→ad.block≠g) (h:Z67.f aH bU bV l1=some (r1,r2,r3)) :
  Calls Tryd.prog 48 #[.pointer (some ⟨g,0,none⟩),.slice A1 l1.length c1] w fun e w'=>∃ dD:Value,e=.returned (dD)∧Kd.R (Kd.int .u8) 5 w' w.heap.size (fun _=>True) dD r1∧IsS96 w0 w' g aH r2 r3∧Below w0.heap.size w0 w'∧KeepBut w w' g none:=by
 have cD:=aM hr1;have dE:=aM hc1;clear hr1 hc1;have aC:=aM hI;have HK:=aM (KeepBut.refl w g none);have HL:=aM hB.size;clear hI;have HW0:=aM hB.size;have HB:=aM hB;clear hB;have H:((Z3.f aH bU bV (wS (l1.length:Int))).bind fun aI=>((Z3.f aH aI.2.1 aI.2.2 5).bind fun bO=>(if bO.1=0 then (none) else (if bO.1=1 then ((some (([]:List Int):List Int)).bind fun bD=>(if 0≤aI.1 then (if aI.1≤(l1.length:Int) then (if bD.length+(l1.take (aI.1:Int).toNat).length<140737488355328 then ((some (bD++(l1.take (aI.1:Int).toNat):List Int)).bind fun aJ=>((Z18.f aH bO.2.1 bO.2.2 (([0,1,128,3]:List Int))).bind fun aN=>((some (([(aN.1) % 256]:List Int):List Int)).bind fun aV=>(if aV.length+(l1.drop (aI.1:Int).toNat).length<140737488355328 then ((some (aV++(l1.drop (aI.1:Int).toNat):List Int)).bind fun aK=>(if aJ.length+aK.length<140737488355328 then (some ((aJ++aK),aN.2.1,aN.2.2)) else (none))) else (none))))) else (none)) else (none)) else (none))) else (none)))))=some (r1,r2,r3):=h
 clear h;obtain ⟨⟨aA,cR,cS⟩,dF,H⟩:=hB H
 try dsimp only at H
 have A3:=aM dF;clear dF;obtain ⟨⟨bG,bH,bI⟩,dG,H⟩:=hB H
 try dsimp only at H
 have A4:=aM dG;clear dG
 by_cases c5:bG=0
 case pos =>
  rw [if_pos c5] at H
  exact absurd H (by simp)
 rw [if_neg c5] at H
 have eE:(bG == 0)=false:=beq_eq_false_iff_ne.mpr c5;have eF:(bG != 0)=true:=bne_iff_ne.mpr c5
 by_cases bY:bG=1
 case neg =>
  rw [if_neg bY] at H
  exact absurd H (by simp)
 rw [if_pos bY] at H
 have dU:(bG == 1)=true:=beq_iff_eq.mpr bY;have dV:(bG != 1)=false:=bne_eq_false_iff_eq.mpr bY;clear bY;obtain ⟨bD,cE,H⟩:=hS H;have bP:=aM cE;clear cE
 by_cases bZ:0≤aA
 case neg =>
  rw [if_neg bZ] at H
  exact absurd H (by simp)
 rw [if_pos bZ] at H
 have dW:=eq_true bZ;have dX:decide (0≤aA)=true:=decide_eq_true bZ;clear bZ
 by_cases cA:aA≤(l1.length:Int)
 case neg =>
  rw [if_neg cA] at H
  exact absurd H (by simp)
 rw [if_pos cA] at H
 have dY:=eq_true cA;have dZ:decide (aA≤(l1.length:Int))=true:=decide_eq_true cA;clear cA
 by_cases cG:bD.length+(l1.take (aA:Int).toNat).length<140737488355328
 case neg =>
  rw [if_neg cG] at H
  exact absurd H (by simp)
 rw [if_pos cG] at H
 have LMc13:=aM cG;clear cG;obtain ⟨aJ,cH,H⟩:=hS H;have bW:=aM cH;clear cH;obtain ⟨bQ,bK⟩:∃ y_:List Int,y_=(([0,1,128,3]:List Int)):=⟨_,rfl⟩;replace H:((Z18.f aH bH bI bQ).bind fun aN=>((some (([(aN.1) % 256]:List Int):List Int)).bind fun aV=>(if aV.length+(l1.drop (aA:Int).toNat).length<140737488355328 then ((some (aV++(l1.drop (aA:Int).toNat):List Int)).bind fun aK=>(if aJ.length+aK.length<140737488355328 then (some ((aJ++aK),aN.2.1,aN.2.2)) else (none))) else (none))))=some (r1,r2,r3):=by (rw [bK];with_reducible exact H)
 have aX:=aM bK;clear bK;obtain ⟨⟨bT,cT,cU⟩,cV,H⟩:=hB H
 try dsimp only at H
 have dO:=aM cV;clear cV;obtain ⟨aV,cK,H⟩:=hS H;have cL:=aM cK;clear cK;have eA:=eq_true (dT:0≤aA);have eB:=eq_true (dT:aA≤(l1.length:Int))
 by_cases cN:aV.length+(l1.drop (aA:Int).toNat).length<140737488355328
 case neg =>
  rw [if_neg cN] at H
  exact absurd H (by simp)
 rw [if_pos cN] at H
 have LMc17:=aM cN;clear cN;obtain ⟨aK,cO,H⟩:=hS H;have cY:=aM cO;clear cO
 by_cases cP:aJ.length+aK.length<140737488355328
 case neg =>
  rw [if_neg cP] at H
  exact absurd H (by simp)
 rw [if_pos cP] at H
 have LMc18:=aM cP;clear cP;obtain ⟨dI,bL⟩:∃ y_:List Int,y_=(aJ++aK):=⟨_,rfl⟩;replace H:(some (dI,cT,cU))=some (r1,r2,r3):=by (rw [bL];with_reducible exact H)
 have dA:=aM bL;clear bL;simp only [Option.some.injEq,Prod.mk.injEq] at H;obtain ⟨rfl,rfl,rfl⟩:=H;go_enter Tryd.func48,Tryd.ntmps48
 try go_wp2_with (first|((with_reducible refine gC (f:=60) rfl ?_);refine goesL_ (some 10) rfl rfl Tryd.func60 (by kernel_rfl) rfl #[.pointer (some ⟨g,0,none⟩),.int .i64 (wS (l1.length:Int))] rfl xR ?_;(with_reducible refine (Z3.calls g aH bU bV (wS (l1.length:Int)) aA cR cS w0 _ ?side1 ?side2 A3.out).mono ?_);(case side1=>exact IsS96.mv aC.out);(case side2=>exact IsS96.bl HB.out);rintro e eI ⟨rfl,hi,hb,hk⟩;refine ⟨_,rfl,?_⟩;replace HK:=aM (KeepBut.trans (km HK.out) hk (.inl rfl));replace HB:=aM (hb);replace aC:=aM (hi);(repeat first|clear hb|clear hk|clear hi))|((with_reducible refine gC (f:=60) rfl ?_);refine goesL_ (some 12) rfl rfl Tryd.func60 (by kernel_rfl) rfl #[.pointer (some ⟨g,0,none⟩),.int .i64 5] rfl xR ?_;(with_reducible refine (Z3.calls g aH cR cS 5 bG bH bI w0 _ ?side1 ?side2 A4.out).mono ?_);(case side1=>exact IsS96.mv aC.out);(case side2=>exact IsS96.bl HB.out);rintro e dP ⟨rfl,hi,hb,hk⟩;refine ⟨_,rfl,?_⟩;replace HK:=aM (KeepBut.trans (km HK.out) hk (.inl rfl));replace HB:=aM (hb);replace aC:=aM (hi);(repeat first|clear hb|clear hk|clear hi)))
 replace aC:=aM (IsS96.drew aC.out);replace HK:=aM (keep_drew HK.out);replace HB:=aM (below_drew1 HB.out);obtain ⟨i022,hi022,_,hsz22,_⟩:=info_parts info5;obtain ⟨hcut22,hA22,hC22⟩:=print_take_of (P:=Tryd.prog) (Value.int .u8) 0 22 5 .i64 Tryd.underlying22 hi022 hsz22 A1 c1 l1 aA (dT) (dT) dE.out;have aQ:=aM (Kd.C_of_reads (h1:=fun _=>rfl) (hA22 _ (Kd.reads_of_C cD.out)))
 have eC:=aM hC22;have bA:∀ ad:Addr,A1=some ad→0<(l1.take (aA:Int).toNat).length→ad.block≠g:=fun ad he h_=>by cases he;exact Kd.foot_ne (fun W_ hk_=>Kd.C_of_reads (h1:=fun _=>rfl) (hA22 _ (Kd.reads_of_C (Kd.C_foot_ne (fun h=>h) cD.out dC W_ hk_)))) h_ (by decide)
 clear hA22 hC22 hi022 hsz22;obtain ⟨i023,hi023,_,hsz23,_⟩:=info_parts info5;obtain ⟨dQ,hcut23,hA23,hC23⟩:=print_drop_of (P:=Tryd.prog) (Value.int .u8) 0 22 5 .i64 Tryd.underlying22 hi023 hsz23 A1 c1 l1 aA (dT) (dT) dE.out;have bX:=aM (Kd.C_of_reads (h1:=fun _=>rfl) (hA23 _ (Kd.reads_of_C cD.out)))
 have eD:=aM hC23;have cQ:∀ ad:Addr,dQ=some ad→0<(l1.drop (aA:Int).toNat).length→ad.block≠g:=fun ad he h_=>by cases he;exact Kd.foot_ne (fun W_ hk_=>Kd.C_of_reads (h1:=fun _=>rfl) (hA23 _ (Kd.reads_of_C (Kd.C_foot_ne (fun h=>h) cD.out dC W_ hk_)))) h_ (by decide)
 clear hA23 hC23 hi023 hsz23;refine start_ (n:=16) (S:=fun w'=>True) (ds:=[]) (dn 16 0) (by kernel_rfl) rfl rfl trivial (fun hHeld=>?_);refine with_tabW Z67.tab6 Z67.bits6 (fun HT_ HW_=>?_)
 generalize dP.drew=eJ at aC HK HB aQ bX hHeld ⊢
 refine pZ 1 21 (bv 16 2) HT_ ?_;refine pZ 2 22 (bv 16 6) HT_ ?_;refine pZ 3 23 (bv 16 14) HT_ ?_;refine pZ 5 25 (bv 16 46) HT_ ?_;refine pZ 10 30 (bv 16 1070) HT_ ?_;refine pZ 11 31 (bv 16 3118) HT_ ?_;refine pZ 12 32 (bv 16 7214) HT_ ?_;refine join_ (σ:=Value × Value × Value) 6 (bv 16 7295) (fun s_=>[(20,s_.1),(24,s_.2.1),(26,s_.2.2)]) (fun s_ w'=>(Kd.R (Kd.int .u8) 5 w' w.heap.size (fun _=>True) s_.2.1 aJ)∧(Kd.R (Kd.int .i64) 3 w' w.heap.size (fun _=>True) s_.2.2 bQ)∧(IsS96 w0 w' g aH bH bI)∧(KeepBut w w' g none)∧(Below w0.heap.size w0 w')) ?_ ?_
 rotate_left
 ·intro hCont
  refine two_ (i:=0) (j:=6) (Ni:=some 20) (Nj:=some 26) (bv 16 7215) (bv 16 7278) rfl rfl rfl rfl (two_of HT_.out (by kernel_rfl)) (by decide) (by decide) (fun K hK=>?_) (fun K hK=>?_)
  ·skip
   refine Kd.R_lit_step (Kd.int .u8) _ 5 ?hg (N:=20) ?hd (xs:=([]:List Int)) (inner:=[]) (ok:=fun _=>True) (okp:=fun _=>True) ?hr ?hp (fun _ hk=>hk) trivial (Below.refl _ _) (Nat.le_refl _) (by simp) ?_;(case hd=>rfl);(case hg=>rfl);(case hr=>(go_simp;done));(case hp=>exact (Reps.none _ _))
   intro aW dR ho25 hb hg_ hnew_;clear hg_ hnew_
   (rw [← bP.out] at ho25)
   have aG:=aM (Kd.R_lower ho25 (keep_size (km HK.out)));replace aC:=aM (IsS96.below (IsS96.mv aC.out) hb);replace HK:=rU HK hb;replace HB:=aM (bS (IsS96.bl HB.out) hb);clear hb ho25;refine hK.out _ _ trivial (fun hHeld=>?_)
   clear hK K;refine norm_ (a':=?_) ?_ ?_;rotate_left
   ·show Act.put _ (some 20) _=_
    simp only [Act.put,sA,sZ,sS,i64_w,i32_w]
    rfl
   refine two_ (i:=4) (j:=6) (Ni:=some 24) (Nj:=some 26) (bv 16 7231) (bv 16 7279) rfl rfl rfl rfl (two_of HT_.out (by kernel_rfl)) (by decide) (by decide) (fun K hK=>?_) (fun K hK=>?_)
   ·skip
    refine Kd.R_append_rows_step (Kd.int .u8) w.heap.size (by rfl) (.tmp 20) (.tmp 23) 22 5 (.int .u8 0) 1 rfl Tryd.underlying22 info5 rfl (by decide) (by omega) aW bD (l1.take (aA:Int).toNat) _ _ _ (fun _=>True) (fun _=>False) rfl rfl ?aO ?aR (fun _ _ h=>h) (fun _ h=>h.elim) ?aF (Below.refl _ _) ?aS ?aL ?_
    (case aR=>(refine l2Dent_len (show (l1.take (aA:Int).toNat).length=aA.toNat from (by rw [List.length_take];have h_:(aA:Int)≤(l1.length:Int):=dT;omega)) ?_;exact Kd.C_keep 0 aQ.out (km HK.out) bA))
    (case aF=>exact (fun _ _=>trivial))
    (case aO=>exact (kr aG.out))
    (case aS=>exact (keep_size (km HK.out)))
    (case aL=>have:=LMc13.out;have hlx_:=(show (l1.take (aA:Int).toNat).length=aA.toNat from (by rw [List.length_take];have h_:(aA:Int)≤(l1.length:Int):=dT;omega));omega)
    intro aT dH ho hb hg hat;rw [← bW.out] at ho
    have aE:=aM (ho);replace aC:=aM (IsS96.grown (IsS96.mv aC.out) hg (IsS96.own_ne aC.out aG.out (by decide)))
    replace HB:=aM (below_weaken (IsS96.bl HB.out) HL.out hb);replace HK:=aM (KeepBut.trans (km HK.out) (KeepBut.of_grown hg g) (Kd.R_base2 aG.out));clear aG;clear ho hb hg hat;refine hK.out _ _ trivial (fun hHeld=>?_)
    clear hK K;refine norm_ (a':=?_) ?_ ?_;rotate_left
    ·show Act.put _ (some 24) _=_
     simp only [Act.put,sA,sZ,sS,i64_w,i32_w]
     rfl
    refine one_ (i:=6) (N:=some 26) (bv 16 7295) rfl rfl (one_of HT_.out (by kernel_rfl)) (by decide) (fun K hK=>?_)
    refine Kd.R_lit_step (Kd.int .i64) _ 3 ?hg (N:=26) ?hd (xs:=([0,1,128,3]:List Int)) (inner:=[.int .i64 0,.int .i64 1,.int .i64 128,.int .i64 3]) (ok:=fun _=>True) (okp:=fun _=>True) ?hr ?hp (fun _ hk=>hk) trivial (Below.refl _ _) (Nat.le_refl _) (by simp) ?_;(case hd=>rfl);(case hg=>rfl);(case hr=>(go_simp;done));(case hp=>exact (Reps.one (show Kd.M (Kd.int .i64) _ _ _ 0 [.int .i64 0] from rfl) (Reps.one (show Kd.M (Kd.int .i64) _ _ _ 1 [.int .i64 1] from rfl) (Reps.one (show Kd.M (Kd.int .i64) _ _ _ 128 [.int .i64 128] from rfl) (Reps.one (show Kd.M (Kd.int .i64) _ _ _ 3 [.int .i64 3] from rfl) (Reps.none _ _))))))
    intro bJ eK ho28 hb hg_ hnew_;clear hg_ hnew_
    (rw [← aX.out] at ho28)
    have aD:=aM (Kd.R_lower ho28 (keep_size (km HK.out)));replace aE:=rK aE hb;replace aC:=aM (IsS96.below (IsS96.mv aC.out) hb);replace HK:=rU HK hb;replace HB:=aM (bS (IsS96.bl HB.out) hb);clear hb ho28;refine hK.out _ _ trivial (fun hHeld=>?_)
    clear hK K;refine norm_ (a':=?_) ?_ ?_;rotate_left
    ·show Act.put _ (some 26) _=_
     simp only [Act.put,sA,sZ,sS,i64_w,i32_w]
     rfl
    exact norm_ (by simp only [putAll,Act.put,sA,sZ,sS]) (hCont (aW,aT,bJ) _ ⟨(kr aE.out),(kr aD.out),(IsS96.mv aC.out),(km HK.out),(IsS96.bl HB.out)⟩)
   ·skip
    refine Kd.R_lit_step (Kd.int .i64) _ 3 ?hg (N:=26) ?hd (xs:=([0,1,128,3]:List Int)) (inner:=[.int .i64 0,.int .i64 1,.int .i64 128,.int .i64 3]) (ok:=fun _=>True) (okp:=fun _=>True) ?hr ?hp (fun _ hk=>hk) trivial (Below.refl _ _) (Nat.le_refl _) (by simp) ?_;(case hd=>rfl);(case hg=>rfl);(case hr=>(go_simp;done));(case hp=>exact (Reps.one (show Kd.M (Kd.int .i64) _ _ _ 0 [.int .i64 0] from rfl) (Reps.one (show Kd.M (Kd.int .i64) _ _ _ 1 [.int .i64 1] from rfl) (Reps.one (show Kd.M (Kd.int .i64) _ _ _ 128 [.int .i64 128] from rfl) (Reps.one (show Kd.M (Kd.int .i64) _ _ _ 3 [.int .i64 3] from rfl) (Reps.none _ _))))))
    intro bJ dH ho27 hb hg_ hnew_;clear hg_ hnew_
    (rw [← aX.out] at ho27)
    have aD:=aM (Kd.R_lower ho27 (keep_size (km HK.out)));replace aG:=rK aG hb;replace aC:=aM (IsS96.below (IsS96.mv aC.out) hb);replace HK:=rU HK hb;replace HB:=aM (bS (IsS96.bl HB.out) hb);clear hb ho27;refine hK.out _ _ trivial (fun hHeld=>?_)
    clear hK K;refine norm_ (a':=?_) ?_ ?_;rotate_left
    ·show Act.put _ (some 26) _=_
     simp only [Act.put,sA,sZ,sS,i64_w,i32_w]
     rfl
    refine one_ (i:=4) (N:=some 24) (bv 16 7295) rfl rfl (one_of HT_.out (by kernel_rfl)) (by decide) (fun K hK=>?_)
    refine Kd.R_append_rows_step (Kd.int .u8) w.heap.size (by rfl) (.tmp 20) (.tmp 23) 22 5 (.int .u8 0) 1 rfl Tryd.underlying22 info5 rfl (by decide) (by omega) aW bD (l1.take (aA:Int).toNat) _ _ _ (fun _=>True) (fun _=>False) rfl rfl ?aO ?aR (fun _ _ h=>h) (fun _ h=>h.elim) ?aF (Below.refl _ _) ?aS ?aL ?_
    (case aR=>(refine l2Dent_len (show (l1.take (aA:Int).toNat).length=aA.toNat from (by rw [List.length_take];have h_:(aA:Int)≤(l1.length:Int):=dT;omega)) ?_;exact Kd.C_keep 0 aQ.out (km HK.out) bA))
    (case aF=>exact (fun _ _=>trivial))
    (case aO=>exact (kr aG.out))
    (case aS=>exact (keep_size (km HK.out)))
    (case aL=>have:=LMc13.out;have hlx_:=(show (l1.take (aA:Int).toNat).length=aA.toNat from (by rw [List.length_take];have h_:(aA:Int)≤(l1.length:Int):=dT;omega));omega)
    intro aT dS ho hb hg hat;rw [← bW.out] at ho
    have aE:=aM (ho);replace aC:=aM (IsS96.grown (IsS96.mv aC.out) hg (IsS96.own_ne aC.out aG.out (by decide)))
    replace aD:=aM (Kd.R_over' (kr aD.out) (Kd.R_typed (kr aG.out)) (by decide) hg)
    replace HB:=aM (below_weaken (IsS96.bl HB.out) HL.out hb);replace HK:=aM (KeepBut.trans (km HK.out) (KeepBut.of_grown hg g) (Kd.R_base2 aG.out));clear aG;clear ho hb hg hat;refine hK.out _ _ trivial (fun hHeld=>?_)
    clear hK K;refine norm_ (a':=?_) ?_ ?_;rotate_left
    ·show Act.put _ (some 24) _=_
     simp only [Act.put,sA,sZ,sS,i64_w,i32_w]
     rfl
    exact norm_ (by simp only [putAll,Act.put,sA,sZ,sS]) (hCont (aW,aT,bJ) _ ⟨(kr aE.out),(kr aD.out),(IsS96.mv aC.out),(km HK.out),(IsS96.bl HB.out)⟩)
  ·skip
   refine Kd.R_lit_step (Kd.int .i64) _ 3 ?hg (N:=26) ?hd (xs:=([0,1,128,3]:List Int)) (inner:=[.int .i64 0,.int .i64 1,.int .i64 128,.int .i64 3]) (ok:=fun _=>True) (okp:=fun _=>True) ?hr ?hp (fun _ hk=>hk) trivial (Below.refl _ _) (Nat.le_refl _) (by simp) ?_;(case hd=>rfl);(case hg=>rfl);(case hr=>(go_simp;done));(case hp=>exact (Reps.one (show Kd.M (Kd.int .i64) _ _ _ 0 [.int .i64 0] from rfl) (Reps.one (show Kd.M (Kd.int .i64) _ _ _ 1 [.int .i64 1] from rfl) (Reps.one (show Kd.M (Kd.int .i64) _ _ _ 128 [.int .i64 128] from rfl) (Reps.one (show Kd.M (Kd.int .i64) _ _ _ 3 [.int .i64 3] from rfl) (Reps.none _ _))))))
   intro bJ dR ho25 hb hg_ hnew_;clear hg_ hnew_
   (rw [← aX.out] at ho25)
   have aD:=aM (Kd.R_lower ho25 (keep_size (km HK.out)));replace aC:=aM (IsS96.below (IsS96.mv aC.out) hb);replace HK:=rU HK hb;replace HB:=aM (bS (IsS96.bl HB.out) hb);clear hb ho25;refine hK.out _ _ trivial (fun hHeld=>?_)
   clear hK K;refine norm_ (a':=?_) ?_ ?_;rotate_left
   ·show Act.put _ (some 26) _=_
    simp only [Act.put,sA,sZ,sS,i64_w,i32_w]
    rfl
   refine one_ (i:=0) (N:=some 20) (bv 16 7279) rfl rfl (one_of HT_.out (by kernel_rfl)) (by decide) (fun K hK=>?_)
   refine Kd.R_lit_step (Kd.int .u8) _ 5 ?hg (N:=20) ?hd (xs:=([]:List Int)) (inner:=[]) (ok:=fun _=>True) (okp:=fun _=>True) ?hr ?hp (fun _ hk=>hk) trivial (Below.refl _ _) (Nat.le_refl _) (by simp) ?_;(case hd=>rfl);(case hg=>rfl);(case hr=>(go_simp;done));(case hp=>exact (Reps.none _ _))
   intro aW dH ho27 hb hg_ hnew_;clear hg_ hnew_
   (rw [← bP.out] at ho27)
   have aG:=aM (Kd.R_lower ho27 (keep_size (km HK.out)));replace aD:=rK aD hb;replace aC:=aM (IsS96.below (IsS96.mv aC.out) hb);replace HK:=rU HK hb;replace HB:=aM (bS (IsS96.bl HB.out) hb);clear hb ho27;refine hK.out _ _ trivial (fun hHeld=>?_)
   clear hK K;refine norm_ (a':=?_) ?_ ?_;rotate_left
   ·show Act.put _ (some 20) _=_
    simp only [Act.put,sA,sZ,sS,i64_w,i32_w]
    rfl
   refine one_ (i:=4) (N:=some 24) (bv 16 7295) rfl rfl (one_of HT_.out (by kernel_rfl)) (by decide) (fun K hK=>?_)
   refine Kd.R_append_rows_step (Kd.int .u8) w.heap.size (by rfl) (.tmp 20) (.tmp 23) 22 5 (.int .u8 0) 1 rfl Tryd.underlying22 info5 rfl (by decide) (by omega) aW bD (l1.take (aA:Int).toNat) _ _ _ (fun _=>True) (fun _=>False) rfl rfl ?aO ?aR (fun _ _ h=>h) (fun _ h=>h.elim) ?aF (Below.refl _ _) ?aS ?aL ?_
   (case aR=>(refine l2Dent_len (show (l1.take (aA:Int).toNat).length=aA.toNat from (by rw [List.length_take];have h_:(aA:Int)≤(l1.length:Int):=dT;omega)) ?_;exact Kd.C_keep 0 aQ.out (km HK.out) bA))
   (case aF=>exact (fun _ _=>trivial))
   (case aO=>exact (kr aG.out))
   (case aS=>exact (keep_size (km HK.out)))
   (case aL=>have:=LMc13.out;have hlx_:=(show (l1.take (aA:Int).toNat).length=aA.toNat from (by rw [List.length_take];have h_:(aA:Int)≤(l1.length:Int):=dT;omega));omega)
   intro aT dS ho hb hg hat;rw [← bW.out] at ho
   have aE:=aM (ho);replace aC:=aM (IsS96.grown (IsS96.mv aC.out) hg (IsS96.own_ne aC.out aG.out (by decide)))
   replace aD:=aM (Kd.R_over' (kr aD.out) (Kd.R_typed (kr aG.out)) (by decide) hg)
   replace HB:=aM (below_weaken (IsS96.bl HB.out) HL.out hb);replace HK:=aM (KeepBut.trans (km HK.out) (KeepBut.of_grown hg g) (Kd.R_base2 aG.out));clear aG;clear ho hb hg hat;refine hK.out _ _ trivial (fun hHeld=>?_)
   clear hK K;refine norm_ (a':=?_) ?_ ?_;rotate_left
   ·show Act.put _ (some 24) _=_
    simp only [Act.put,sA,sZ,sS,i64_w,i32_w]
    rfl
   exact norm_ (by simp only [putAll,Act.put,sA,sZ,sS]) (hCont (aW,aT,bJ) _ ⟨(kr aE.out),(kr aD.out),(IsS96.mv aC.out),(km HK.out),(IsS96.bl HB.out)⟩)
 rintro ⟨aW,aT,bJ⟩ cC ⟨h0_,h1_,h2_,h3_,h4_⟩;have aE:Aside0 (Kd.R (Kd.int .u8) 5 cC w.heap.size (fun _=>True) aT aJ):=⟨h0_⟩
 have aD:Aside0 (Kd.R (Kd.int .i64) 3 cC w.heap.size (fun _=>True) bJ bQ):=⟨h1_⟩
 replace aC:Aside0 (IsS96 w0 cC g aH bH bI):=⟨h2_⟩;replace HK:Aside0 (KeepBut w cC g none):=⟨h3_⟩;replace HB:Aside0 (Below w0.heap.size w0 cC):=⟨h4_⟩;clear h0_ h1_ h2_ h3_ h4_;have hHeld:=trivial;obtain ⟨dJ,dK,cW⟩:=Kd.R_slice aD.out
 (subst cW)
 refine norm_ (a':=?_) ?_ ?_;rotate_left
 ·simp only [putAll,Act.put,sA,sZ,sS]
  rfl
 refine one_ (i:=7) (N:=some 27) (bv 16 7423) rfl rfl (one_of HT_.out (by kernel_rfl)) (by decide) (fun K hK=>?_)
 refine goes_ Tryd.func51 (by kernel_rfl) rfl #[.pointer (some ⟨g,0,none⟩),.slice dJ bQ.length dK] (by rfl) rfl rfl xR ?_
 with_reducible refine (Z18.calls g aH bH bI _ _ bQ bT cT cU w0 _ ?side1 ?side2 ?side3 ?side4 ?side5 dO.out).mono ?_
 (case side1=>exact IsS96.mv aC.out)
 (case side2=>exact IsS96.bl HB.out)
 (case side3=>exact cM ((Kd.R_reads' aD.out).2.2))
 (case side4=>exact (Kd.R_reads' aD.out).2.1)
 (case side5=>exact far_slice (IsS96.own_ne aC.out aD.out (by decide)))
 rintro e eL ⟨rfl,hi,hb,hk⟩;refine ⟨_,rfl,?_⟩;replace aE:=aM (IsS96.rJ aH bH bI (IsS96.mv aC.out) (kr aE.out) hk)
 replace aD:=aM (IsS96.rJ aH bH bI (IsS96.mv aC.out) (kr aD.out) hk)
 replace HK:=aM (KeepBut.trans (km HK.out) hk (.inl rfl));replace HB:=aM (hb);replace aC:=aM (hi)
 (try clear hb)
 (try clear hk)
 (try clear hi)
 refine hK.out _ _ trivial (fun hHeld=>?_)
 clear hK K;refine norm_ (a':=?_) ?_ ?_;rotate_left
 ·show Act.put _ (some 27) _=_
  simp only [Act.put,sA,sZ,sS,i64_w,i32_w]
  rfl
 refine pZ 8 28 (bv 16 7679) HT_ ?_;refine one_ (i:=9) (N:=some 29) (bv 16 8191) rfl rfl (one_of HT_.out (by kernel_rfl)) (by decide) (fun K hK=>?_)
 refine Kd.R_lit_step (Kd.int .u8) _ 5 ?hg (N:=29) ?hd (xs:=([(bT) % 256]:List Int)) (inner:=[.int .u8 ((bT) % 256)]) (ok:=fun _=>True) (okp:=fun _=>True) ?hr ?hp (fun _ hk=>hk) trivial (Below.refl _ _) (Nat.le_refl _) (by simp) ?_;(case hd=>rfl);(case hg=>rfl);(case hr=>(go_simp;rfl));(case hp=>exact (Reps.one (show Kd.M (Kd.int .u8) _ _ _ ((bT) % 256) [.int .u8 ((bT) % 256)] from rfl) (Reps.none _ _)))
 intro dL eM ho33 hb hg_ hnew_;clear hg_ hnew_
 (rw [← cL.out] at ho33)
 have bM:=aM (Kd.R_lower (Kd.R_new' ho33 (Kd.R_lt (kr aE.out))) (keep_size (km HK.out)));replace aE:=aM (Kd.R_elder' (kr aE.out) (Kd.R_base ho33) hb);replace aD:=rK aD hb;replace aC:=aM (IsS96.below (IsS96.mv aC.out) hb);replace HK:=rU HK hb;replace HB:=aM (bS (IsS96.bl HB.out) hb);clear hb ho33;refine hK.out _ _ trivial (fun hHeld=>?_)
 clear hK K;refine norm_ (a':=?_) ?_ ?_;rotate_left
 ·show Act.put _ (some 29) _=_
  simp only [Act.put,sA,sZ,sS,i64_w,i32_w]
  rfl
 refine one_ (i:=13) (N:=some 33) (bv 16 16383) rfl rfl (one_of HT_.out (by kernel_rfl)) (by decide) (fun K hK=>?_)
 refine Kd.R_append_rows_step (Kd.int .u8) w.heap.size (by rfl) (.tmp 29) (.tmp 32) 22 5 (.int .u8 0) 1 rfl Tryd.underlying22 info5 rfl (by decide) (by omega) dL aV (l1.drop (aA:Int).toNat) _ _ _ (fun k_=>some k_≠(aT:Value).ownBlock) (fun _=>False) rfl rfl ?aO ?aR (fun _ _ h=>h) (fun _ h=>h.elim) ?aF (Below.refl _ _) ?aS ?aL ?_
 (case aR=>(rw [← show (l1.drop (aA:Int).toNat).length=(l1.length - aA.toNat) from List.length_drop];exact Kd.C_keep 0 bX.out (km HK.out) cQ))
 (case aF=>exact (fun k_ hk=>Kd.fresh' (Kd.R_lt (kr aE.out)) k_ hk))
 (case aO=>exact (kr (Kd.R_mono bM.out (fun _ hk=>hk.2))))
 (case aS=>exact (keep_size (km HK.out)))
 (case aL=>have:=LMc17.out;have hlx_:=(show (l1.drop (aA:Int).toNat).length=(l1.length - aA.toNat) from List.length_drop);omega)
 intro eG eN ho hb hg hat;rw [← cY.out] at ho
 have bN:=aM (ho);replace aC:=aM (IsS96.grown (IsS96.mv aC.out) hg (IsS96.own_ne aC.out bM.out (by decide)))
 replace aE:=aM (Kd.R_after (ok:=(fun _=>True)) (kr aE.out) hg hat)
 replace aD:=aM (Kd.R_over' (kr aD.out) (Kd.R_typed (kr bM.out)) (by decide) hg)
 replace HB:=aM (below_weaken (IsS96.bl HB.out) HL.out hb);replace HK:=aM (KeepBut.trans (km HK.out) (KeepBut.of_grown hg g) (Kd.R_base2 bM.out));clear bM;clear ho hb hg hat;obtain ⟨dM,dN,cX⟩:=Kd.R_slice bN.out
 (subst cX)
 refine hK.out _ _ trivial (fun hHeld=>?_)
 clear hK K;refine norm_ (a':=?_) ?_ ?_;rotate_left
 ·show Act.put _ (some 33) _=_
  simp only [Act.put,sA,sZ,sS,i64_w,i32_w]
  rfl
 refine one_ (i:=14) (N:=some 34) (bv 16 32767) rfl rfl (one_of HT_.out (by kernel_rfl)) (by decide) (fun K hK=>?_)
 refine Kd.R_append_rows_step (Kd.int .u8) w.heap.size (by rfl) (.tmp 24) (.tmp 33) 22 5 (.int .u8 0) 1 rfl Tryd.underlying22 info5 rfl (by decide) (by omega) aT aJ aK _ _ _ (fun k_=>some k_≠(.slice dM aK.length dN:Value).ownBlock) (fun _=>False) rfl rfl ?aO ?aR (fun _ _ h=>h) (fun _ h=>h.elim) ?aF (Below.refl _ _) ?aS ?aL ?_
 (case aR=>repeat (exact (Kd.R_reads' bN.out).2.2))
 (case aF=>exact (fun k_ hk=>Kd.fresh' (Kd.R_lt (kr bN.out)) k_ hk))
 (case aO=>exact (kr (Kd.R_mono aE.out (fun _ hk=>hk.2))))
 (case aS=>exact (keep_size (km HK.out)))
 (case aL=>have:=LMc18.out;omega)
 intro eH eO ho hb hg hat;rw [← dA.out] at ho
 have dB:=aM (ho);replace aC:=aM (IsS96.grown (IsS96.mv aC.out) hg (IsS96.own_ne aC.out aE.out (by decide)))
 replace aD:=aM (Kd.R_over' (kr aD.out) (Kd.R_typed (kr aE.out)) (by decide) hg)
 replace bN:=aM (Kd.R_after (ok:=(fun _=>True)) (kr (Kd.R_mono bN.out (fun _ hk=>⟨trivial,hk⟩))) hg hat)
 replace HB:=aM (below_weaken (IsS96.bl HB.out) HL.out hb);replace HK:=aM (KeepBut.trans (km HK.out) (KeepBut.of_grown hg g) (Kd.R_base2 aE.out));clear aE;clear ho hb hg hat;refine hK.out _ _ trivial (fun hHeld=>?_)
 clear hK K;refine norm_ (a':=?_) ?_ ?_;rotate_left
 ·show Act.put _ (some 34) _=_
  simp only [Act.put,sA,sZ,sS,i64_w,i32_w]
  rfl
 refine pZ 15 4 (bv 16 65535) HT_ ?_;refine done_ (done_of HT_.out (by kernel_rfl)) ?_
 try go_wp2
 go_ret
 exact ⟨_,xW,kr (Kd.R_mono dB.out (fun _ hk=>trivial)),IsS96.mv aC.out,IsS96.bl HB.out,km HK.out⟩

def Z71.f (aD:List Int) (aE aG:Int) (l1:List Int):Option (List Int × Int × Int):=(Z3.f aD aE aG (wrap64 ((l1.length:Int)+1))).bind fun aC=>((Z3.f aD aC.2.1 aC.2.2 5).bind fun aA=>(if aA.1=0 then (if 0≤aC.1 then (if aC.1≤(l1.length:Int) then (some ((l1.take (aC.1:Int).toNat),aA.2.1,aA.2.2)) else (none)) else (none)) else (if aA.1=1 then (Z67.f aD aE aG l1) else (some (l1,aA.2.1,aA.2.2)))))
set_option maxHeartbeats 60000000 in
set_option maxRecDepth 100000 in
theorem Z71.calls (g:Nat) (aA:List Int) (aH aI:Int) (P1_:Nat→Prop) (aV:Value) (l1:List Int) (r1:List Int) (r2 r3:Int) (w0 w:World) (hI:IsS96 w0 w g aA aH aI) (hB:Below w0.heap.size w0 w) (ho1:Kd.R (Kd.int .u8) 5 w w0.heap.size P1_ aV l1) (h:Z71.f aA aH aI l1=some (r1,r2,r3)) :
  Calls Tryd.prog 48 #[.pointer (some ⟨g,0,none⟩),aV] w fun e w'=>∃ bK:Value,e=.returned (bK)∧Kd.R (Kd.int .u8) 5 w' w0.heap.size (fun k_=>(P1_ k_∨w.heap.size≤k_)) bK r1∧IsS96 w0 w' g aA r2 r3∧Below w0.heap.size w0 w'∧Kept w w' (fun k_=>(P1_ k_)∨k_=g):=by
 have aC:=aM (show Kd.R (Kd.int .u8) 5 w w0.heap.size (fun k_=>(P1_ k_∨w.heap.size≤k_)) aV l1 from Kd.R_mono ho1 (fun k_ hk=>(.inl hk)))
 have aD:=aM hI;have HL:=aM hB.size;clear hI;have HK:=aM (Kept.refl w (fun k_=>(P1_ k_)∨k_=g))
 have HW0:=aM hB.size;have HB:=aM hB;clear hB;have H:((Z3.f aA aH aI (wS (l1.length:Int))).bind fun aK=>((Z3.f aA aK.2.1 aK.2.2 5).bind fun aJ=>(if aJ.1=0 then (if 0≤aK.1 then (if aK.1≤(l1.length:Int) then (some ((l1.take (aK.1:Int).toNat),aJ.2.1,aJ.2.2)) else (none)) else (none)) else (if aJ.1=1 then (Z67.f aA aH aI l1) else (some (l1,aJ.2.1,aJ.2.2))))))=some (r1,r2,r3):=h
 clear h;obtain ⟨⟨aE,aQ,aT⟩,bL,H⟩:=hB H
 try dsimp only at H
 have A3:=aM bL;clear bL;obtain ⟨⟨aG,aW,aX⟩,bM,H⟩:=hB H
 try dsimp only at H
 have A4:=aM bM;clear bM
 by_cases c5:aG=0
 case neg =>
  rw [if_neg c5] at H
  have bN:(aG == 0)=false:=beq_eq_false_iff_ne.mpr c5;have bO:(aG != 0)=true:=bne_iff_ne.mpr c5
  by_cases bA:aG=1
  case pos =>
   rw [if_pos bA] at H
   obtain ⟨Ao_,co_,eo_⟩:=Kd.R_slice aC.out;subst eo_;have hc_:=Kd.R_reads' aC.out;refine (Z67.calls g aA aH aI Ao_ co_ l1 r1 r2 r3 w0 w aD.out HB.out hc_.2.2 hc_.2.1 (fun ad e_ hl_ he_=>?_) H).mono ?_
   ·obtain ⟨_,_,hbox_,_⟩:=aD.out
    subst e_;subst he_;exact Kd.R_ne aC.out hbox_ (by decide) rfl
   ·rintro e w' ⟨v,he,hr,hi,hb,hk⟩
    exact ⟨v,he,Kd.R_lower (Kd.R_mono (Kd.R_bound hr) (fun k hk=>.inr hk.2.1)) (below_size HB.out),hi,hb,Kept.of_keep HK.out hk (.inl (.inr rfl))⟩
  rw [if_neg bA] at H
  have bV:(aG == 1)=false:=beq_eq_false_iff_ne.mpr bA;have bW:(aG != 1)=true:=bne_iff_ne.mpr bA;simp only [Option.some.injEq,Prod.mk.injEq] at H;obtain ⟨rfl,rfl,rfl⟩:=H;obtain ⟨bX,bY,bP⟩:=Kd.R_slice aC.out;subst bP;go_enter Tryd.func48,Tryd.ntmps48
  go_wp2_with (first|((with_reducible refine gC (f:=60) rfl ?_);refine goesL_ (some 10) rfl rfl Tryd.func60 (by kernel_rfl) rfl #[.pointer (some ⟨g,0,none⟩),.int .i64 (wS (l1.length:Int))] rfl xR ?_;(with_reducible refine (Z3.calls g aA aH aI (wS (l1.length:Int)) aE aQ aT w0 _ ?side1 ?side2 A3.out).mono ?_);(case side1=>exact IsS96.mv aD.out);(case side2=>exact IsS96.bl HB.out);rintro e cE ⟨rfl,hi,hb,hk⟩;refine ⟨_,rfl,?_⟩;replace aC:=aM (IsS96.rJ aA aH aI (IsS96.mv aD.out) (kr aC.out) hk);replace HK:=aM (Kept.of_keep (S:=(fun k_=>(P1_ k_)∨k_=g)) (by repeat ((with_reducible exact HK.out))) hk (.inl (.inr rfl)));replace HB:=aM (hb);replace aD:=aM (hi);(repeat first|clear hb|clear hk|clear hi))|((with_reducible refine gC (f:=60) rfl ?_);refine goesL_ (some 12) rfl rfl Tryd.func60 (by kernel_rfl) rfl #[.pointer (some ⟨g,0,none⟩),.int .i64 5] rfl xR ?_;(with_reducible refine (Z3.calls g aA aQ aT 5 aG aW aX w0 _ ?side1 ?side2 A4.out).mono ?_);(case side1=>exact IsS96.mv aD.out);(case side2=>exact IsS96.bl HB.out);rintro e cG ⟨rfl,hi,hb,hk⟩;refine ⟨_,rfl,?_⟩;replace aC:=aM (IsS96.rJ aA aQ aT (IsS96.mv aD.out) (kr aC.out) hk);replace HK:=aM (Kept.of_keep (S:=(fun k_=>(P1_ k_)∨k_=g)) (by repeat ((with_reducible exact HK.out))) hk (.inl (.inr rfl)));replace HB:=aM (hb);replace aD:=aM (hi);(repeat first|clear hb|clear hk|clear hi)))
  go_ret
  exact ⟨_,xW,kr aC.out,IsS96.mv aD.out,IsS96.bl HB.out,by repeat ((with_reducible exact HK.out))⟩
 rw [if_pos c5] at H
 have bN:(aG == 0)=true:=beq_iff_eq.mpr c5;have bO:(aG != 0)=false:=bne_eq_false_iff_eq.mpr c5;clear c5
 by_cases c6:0≤aE
 case neg =>
  rw [if_neg c6] at H
  exact absurd H (by simp)
 rw [if_pos c6] at H
 have bZ:=eq_true c6;have cA:decide (0≤aE)=true:=decide_eq_true c6;clear c6
 by_cases c7:aE≤(l1.length:Int)
 case neg =>
  rw [if_neg c7] at H
  exact absurd H (by simp)
 rw [if_pos c7] at H
 have cC:=eq_true c7;have cD:decide (aE≤(l1.length:Int))=true:=decide_eq_true c7;clear c7;obtain ⟨bG,aN⟩:∃ y_:List Int,y_=(l1.take (aE:Int).toNat):=⟨_,rfl⟩;replace H:(some (bG,aW,aX))=some (r1,r2,r3):=by (rw [aN];with_reducible exact H)
 have bD:=aM aN;clear aN;simp only [Option.some.injEq,Prod.mk.injEq] at H;obtain ⟨rfl,rfl,rfl⟩:=H;obtain ⟨bQ,bT,bU⟩:=Kd.R_slice aC.out;subst bU;go_enter Tryd.func48,Tryd.ntmps48
 go_wp2_with (first|((with_reducible refine gC (f:=60) rfl ?_);refine goesL_ (some 10) rfl rfl Tryd.func60 (by kernel_rfl) rfl #[.pointer (some ⟨g,0,none⟩),.int .i64 (wS (l1.length:Int))] rfl xR ?_;(with_reducible refine (Z3.calls g aA aH aI (wS (l1.length:Int)) aE aQ aT w0 _ ?side1 ?side2 A3.out).mono ?_);(case side1=>exact IsS96.mv aD.out);(case side2=>exact IsS96.bl HB.out);rintro e w9 ⟨rfl,hi,hb,hk⟩;refine ⟨_,rfl,?_⟩;replace aC:=aM (IsS96.rJ aA aH aI (IsS96.mv aD.out) (kr aC.out) hk);replace HK:=aM (Kept.of_keep (S:=(fun k_=>(P1_ k_)∨k_=g)) (by repeat ((with_reducible exact HK.out))) hk (.inl (.inr rfl)));replace HB:=aM (hb);replace aD:=aM (hi);(repeat first|clear hb|clear hk|clear hi))|((with_reducible refine gC (f:=60) rfl ?_);refine goesL_ (some 12) rfl rfl Tryd.func60 (by kernel_rfl) rfl #[.pointer (some ⟨g,0,none⟩),.int .i64 5] rfl xR ?_;(with_reducible refine (Z3.calls g aA aQ aT 5 aG aW aX w0 _ ?side1 ?side2 A4.out).mono ?_);(case side1=>exact IsS96.mv aD.out);(case side2=>exact IsS96.bl HB.out);rintro e cH ⟨rfl,hi,hb,hk⟩;refine ⟨_,rfl,?_⟩;replace aC:=aM (IsS96.rJ aA aQ aT (IsS96.mv aD.out) (kr aC.out) hk);replace HK:=aM (Kept.of_keep (S:=(fun k_=>(P1_ k_)∨k_=g)) (by repeat ((with_reducible exact HK.out))) hk (.inl (.inr rfl)));replace HB:=aM (hb);replace aD:=aM (hi);(repeat first|clear hb|clear hk|clear hi);have bH:(aE:Int)≤((l1.length:Int):Int):=dT;obtain ⟨i011,hi011,_,hsz11,_⟩:=info_parts info5;have hcut11:=cut_to (P:=Tryd.prog) 22 5 .i64 Tryd.underlying22 hi011 bQ l1.length bT aE (dT) bH (Kd.R_reads' aC.out).2.1;have hr11:=Kd.R_take (m:=(aE:Int).toNat) aC.out (by omega);have bI:bG.length=(aE:Int).toNat:=(by rw [bD.out,List.length_take];omega);rw [← bD.out] at hr11;rw [← bI] at hr11 hcut11;clear bI hi011 hsz11 aC;have bJ:=aM hr11;clear hr11;replace bH:=eq_true bH))
 go_ret
 exact ⟨_,xW,kr bJ.out,IsS96.mv aD.out,IsS96.bl HB.out,by repeat ((with_reducible exact HK.out))⟩

def Z36.l0:Nat→List Int→Int→List Int→Int→Int→Option (List Int × Int × Int)
 | 0,_,_,_,_,_=>none
 | k+1,x3,x4,aA,aK,aN=>(Z3.f aA aK aN 4).bind fun aC=>(if x4<aC.1 then ((Z18.f aA aC.2.1 aC.2.2 (([0,1,127,128,300,2147483647]:List Int))).bind fun aE=>((Z29.f k aE.1).bind fun aI=>(if x3.length+aI.length<140737488355328 then (Z36.l0 k (x3++aI) (wrap64 (x4+1)) aA aE.2.1 aE.2.2) else (none)))) else ((Z44.f aA aC.2.1 aC.2.2 3).bind fun aD=>(if aD.1=true then ((Z18.f aA aD.2.1 aD.2.2 (([0,128,255]:List Int))).bind fun aG=>((Z3.f aA aG.2.1 aG.2.2 3).bind fun aH=>((some (([(aG.1) % 256,(aH.1) % 256]:List Int):List Int)).bind fun aJ=>(if x3.length+aJ.length<140737488355328 then (some ((x3++aJ),aH.2.1,aH.2.2)) else (none))))) else (some (x3,aD.2.1,aD.2.2)))))
def Z36.f (k:Nat) (aA:List Int) (aC aD:Int):Option (List Int × Int × Int):=Z36.l0 k (([]:List Int)) 0 aA aC aD
theorem Z36.mono_l:∀ k,(∀ y0 y1 y2 y3 y4,LeO (Z36.l0 k y0 y1 y2 y3 y4) (Z36.l0 (k+1) y0 y1 y2 y3 y4))
 | 0=>fun _ _ _ _ _ r h=>by simp [Z36.l0] at h
 | k+1=>by
  have ih0:=Z36.mono_l k
  ·intro y0 y1 y2 y3 y4
   unfold Z36.l0
   repeat' (with_reducible first|apply ih0|apply Z29.mono|exact lR _|refine lI ?_ ?_|refine lB ?_ fun _=>?_)
theorem Z36.mono:∀ a0 a1 a2 k,LeO (Z36.f k a0 a1 a2) (Z36.f (k+1) a0 a1 a2):=by
 intro a0 a1 a2 k;have ih0:=Z36.mono_l k;unfold Z36.f
 repeat' (with_reducible apply ih0)
set_option maxHeartbeats 60000000 in
set_option maxRecDepth 100000 in
theorem Z36.calls (k g:Nat) (aD:List Int) (bL bM:Int) (r1:List Int) (r2 r3:Int) (w0 w:World) (hI:IsS96 w0 w g aD bL bM) (hB:Below w0.heap.size w0 w) (h:Z36.f k aD bL bM=some (r1,r2,r3)) :
  Calls Tryd.prog 50 #[.pointer (some ⟨g,0,none⟩)] w fun e w'=>∃ dB:Value,e=.returned (dB)∧Kd.R (Kd.int .u8) 5 w' w.heap.size (fun _=>True) dB r1∧IsS96 w0 w' g aD r2 r3∧Below w0.heap.size w0 w'∧KeepBut w w' g none:=by
 have aC:=aM hI;have HK:=aM (KeepBut.refl w g none);have HL:=aM hB.size;clear hI;have HW0:=aM hB.size;have HB:=aM hB;clear hB;have H:(Z36.l0 k (([]:List Int)) 0 aD bL bM)=some (r1,r2,r3):=h;clear h;obtain ⟨cO,bA⟩:∃ y_:List Int,y_=(([]:List Int)):=⟨_,rfl⟩;replace H:(Z36.l0 k cO 0 aD bL bM)=some (r1,r2,r3):=by (rw [bA];with_reducible exact H)
 have cD:=aM bA;clear bA;have H':=aM H;clear H;go_enter Tryd.func50,Tryd.ntmps50
 go_wp2_with (((with_reducible refine gD (N:=5) rfl ?_);refine Kd.R_lit (Kd.int .u8) _ 5 ?hg (N:=5) ?hd (xs:=([]:List Int)) (inner:=[]) (ok:=fun _=>True) (okp:=fun _=>True) ?hr ?hp (fun _ hk=>hk) trivial (Below.refl _ _) (Nat.le_refl _) (by simp) ?_;(case hd=>rfl);(case hg=>rfl);(case hr=>(go_simp;done));(case hp=>exact (Reps.none _ _));intro dZ w2 ho3 hb hg_ hnew_;clear hg_ hnew_;(rw [← cD.out] at ho3);have cV:=aM (Kd.R_lower ho3 (keep_size (km HK.out)));replace aC:=aM (IsS96.below (IsS96.mv aC.out) hb);replace HK:=rU HK hb;replace HB:=aM (bS (IsS96.bl HB.out) hb);clear hb ho3))
 go_loopg [3,4] k (fun kq v3 v4 w'=>∃ (aJ:List Int) (aW:Int) (aG:Int) (aH:Int),v4=.int .i64 aW∧Aside0 (Z36.l0 kq aJ aW aD aG aH=some (r1,r2,r3))∧Aside0 (kq≤k)∧Aside0 (Kd.R (Kd.int .u8) 5 w' w.heap.size (fun _=>True) v3 aJ)∧Aside0 (IsS96 w0 w' g aD aG aH)∧Aside0 (KeepBut w w' g none)∧Aside0 (Below w0.heap.size w0 w'))
 case atStart=>exact ⟨(cO),(0),(bL),(bM),xE,H',⟨Nat.le_refl _⟩,⟨kr cV.out⟩,⟨IsS96.mv aC.out⟩,⟨km HK.out⟩,⟨IsS96.bl HB.out⟩⟩
 case round =>
  clear H'
  obtain ⟨aJ,aW,aG,aH,rfl,HA,dC,aA,aC,HK,HB⟩:=hrel;cases gk with
  | zero=>exact absurd HA.out (by simp [Z36.l0])
  | succ k1 =>
   have H:=HA.out;clear HA;simp only [Z36.l0] at H;obtain ⟨⟨bP,aN,aQ⟩,dD,H⟩:=hB H
   try dsimp only at H
   have A4:=aM dD;clear dD
   by_cases c5:aW<bP
   case pos =>
    rw [if_pos c5] at H
    have dH:=decide_eq_true c5;clear c5;obtain ⟨bX,bD⟩:∃ y_:List Int,y_=(([0,1,127,128,300,2147483647]:List Int)):=⟨_,rfl⟩;replace H:((Z18.f aD aN aQ bX).bind fun bQ=>((Z29.f k1 bQ.1).bind fun aV=>(if aJ.length+aV.length<140737488355328 then (Z36.l0 k1 (aJ++aV) (wS aW) aD bQ.2.1 bQ.2.2) else (none))))=some (r1,r2,r3):=by (rw [bD];with_reducible exact H)
    have cE:=aM bD;clear bD;obtain ⟨⟨bY,bZ,cA⟩,dE,H⟩:=hB H
    try dsimp only at H
    have A6:=aM dE;clear dE;obtain ⟨aV,dF,H⟩:=hB H;have A7:=aM dF;clear dF
    by_cases c8:aJ.length+aV.length<140737488355328
    case neg =>
     rw [if_neg c8] at H
     exact absurd H (by simp)
    rw [if_pos c8] at H
    have LMc8:=aM c8;clear c8;obtain ⟨cP,bG⟩:∃ y_:List Int,y_=(aJ++aV):=⟨_,rfl⟩;replace H:(Z36.l0 k1 cP (wS aW) aD bZ cA)=some (r1,r2,r3):=by (rw [bG];with_reducible exact H)
    have cW:=aM bG;clear bG;have H':=aM H;clear H;go_wp2_with (first|((with_reducible refine gC (f:=60) rfl ?_);refine goesL_ (some 8) rfl rfl Tryd.func60 (by kernel_rfl) rfl #[.pointer (some ⟨g,0,none⟩),.int .i64 4] rfl xR ?_;(with_reducible refine (Z3.calls g aD aG aH 4 bP aN aQ w0 _ ?side1 ?side2 A4.out).mono ?_);(case side1=>exact IsS96.mv aC.out);(case side2=>exact IsS96.bl HB.out);rintro e w9 ⟨rfl,hi,hb,hk⟩;refine ⟨_,rfl,?_⟩;replace aA:=aM (IsS96.rJ aD aG aH (IsS96.mv aC.out) (kr aA.out) hk);replace HK:=aM (KeepBut.trans (km HK.out) hk (.inl rfl));replace HB:=aM (hb);replace aC:=aM (hi);(repeat first|clear hb|clear hk|clear hi))|((with_reducible refine gD (N:=14) rfl ?_);refine Kd.R_lit (Kd.int .i64) _ 3 ?hg (N:=14) ?hd (xs:=([0,1,127,128,300,2147483647]:List Int)) (inner:=[.int .i64 0,.int .i64 1,.int .i64 127,.int .i64 128,.int .i64 300,.int .i64 2147483647]) (ok:=fun _=>True) (okp:=fun _=>True) ?hr ?hp (fun _ hk=>hk) trivial (Below.refl _ _) (Nat.le_refl _) (by simp) ?_;(case hd=>rfl);(case hg=>rfl);(case hr=>(go_simp;done));(case hp=>exact (Reps.one (show Kd.M (Kd.int .i64) _ _ _ 0 [.int .i64 0] from rfl) (Reps.one (show Kd.M (Kd.int .i64) _ _ _ 1 [.int .i64 1] from rfl) (Reps.one (show Kd.M (Kd.int .i64) _ _ _ 127 [.int .i64 127] from rfl) (Reps.one (show Kd.M (Kd.int .i64) _ _ _ 128 [.int .i64 128] from rfl) (Reps.one (show Kd.M (Kd.int .i64) _ _ _ 300 [.int .i64 300] from rfl) (Reps.one (show Kd.M (Kd.int .i64) _ _ _ 2147483647 [.int .i64 2147483647] from rfl) (Reps.none _ _))))))));intro eA eG ho11 hb hg_ hnew_;clear hg_ hnew_;(rw [← cE.out] at ho11);have aI:=aM (Kd.R_lower ho11 (keep_size (km HK.out)));replace aA:=rK aA hb;replace aC:=aM (IsS96.below (IsS96.mv aC.out) hb);replace HK:=rU HK hb;replace HB:=aM (bS (IsS96.bl HB.out) hb);clear hb ho11;obtain ⟨dI,dJ,dK⟩:=Kd.R_slice aI.out;subst dK)|((with_reducible refine gC (f:=51) rfl ?_);refine goesL_ (some 15) rfl rfl Tryd.func51 (by kernel_rfl) rfl #[.pointer (some ⟨g,0,none⟩),.slice dI bX.length dJ] rfl xR ?_;(with_reducible refine (Z18.calls g aD aN aQ _ _ bX bY bZ cA w0 _ ?side1 ?side2 ?side3 ?side4 ?side5 A6.out).mono ?_);(case side1=>exact IsS96.mv aC.out);(case side2=>exact IsS96.bl HB.out);(case side3=>exact cM ((Kd.R_reads' aI.out).2.2));(case side4=>exact (Kd.R_reads' aI.out).2.1);(case side5=>exact far_slice (IsS96.own_ne aC.out aI.out (by decide)));rintro e eH ⟨rfl,hi,hb,hk⟩;refine ⟨_,rfl,?_⟩;replace aA:=aM (IsS96.rJ aD aN aQ (IsS96.mv aC.out) (kr aA.out) hk);replace aI:=aM (IsS96.rJ aD aN aQ (IsS96.mv aC.out) (kr aI.out) hk);replace HK:=aM (KeepBut.trans (km HK.out) hk (.inl rfl));replace HB:=aM (hb);replace aC:=aM (hi);(repeat first|clear hb|clear hk|clear hi))|((with_reducible refine gC (f:=33) rfl ?_);refine goesL_ (some 16) rfl rfl Tryd.func33 (by kernel_rfl) rfl #[bY] rfl xR ?_;(with_reducible refine (Z29.calls k1 bY aV _ A7.out).mono ?_);rintro e eI ⟨eB,rfl,ho0,hb⟩;refine ⟨_,rfl,?_⟩;have aT:=aM (Kd.R_lower (Kd.R_new' ho0 (Kd.R_lt (kr aA.out))) (keep_size (km HK.out)));replace aA:=aM (Kd.R_elder' (kr aA.out) (Kd.R_base ho0) hb);replace aI:=rK aI hb;replace aC:=aM (IsS96.below (IsS96.mv aC.out) hb);replace HK:=rU HK hb;replace HB:=aM (bS (IsS96.bl HB.out) hb);(repeat first|clear hb|clear ho0);obtain ⟨dL,dM,dN⟩:=Kd.R_slice aT.out;subst dN)|((with_reducible refine gate_builtin (b:=.append) (xs:=#[.tmp 12,.tmp 16]) rfl ?_);at_builtin;refine Kd.R_append_rows (Kd.int .u8) w.heap.size rfl (.tmp 12) (.tmp 16) 22 5 (.int .u8 0) 1 rfl Tryd.underlying22 info5 rfl (by decide) (by omega) u3 aJ aV _ _ _ (fun k_=>some k_≠(.slice dL aV.length dM:Value).ownBlock) (fun _=>False) rfl rfl ?aO ?aR (fun _ _ h=>h) (fun _ h=>h.elim) ?aF (Below.refl _ _) ?aS ?aL ?_;(case aR=>repeat (exact (Kd.R_reads' aT.out).2.2));(case aF=>exact (fun k_ hk=>Kd.fresh' (Kd.R_lt (kr aT.out)) k_ hk));(case aO=>exact (kr (Kd.R_mono aA.out (fun _ hk=>hk.2))));(case aS=>exact (keep_size (km HK.out)));(case aL=>have:=LMc8.out;omega);intro eC eJ ho hb hg hat;rw [← cW.out] at ho;have cX:=aM (ho);replace aC:=aM (IsS96.grown (IsS96.mv aC.out) hg (IsS96.own_ne aC.out aA.out (by decide)));replace aI:=aM (Kd.R_over' (kr aI.out) (Kd.R_typed (kr aA.out)) (by decide) hg);replace aT:=aM (Kd.R_after (ok:=(fun _=>True)) (kr aT.out) hg hat);replace HB:=aM (below_weaken (IsS96.bl HB.out) HL.out hb);replace HK:=aM (KeepBut.trans (km HK.out) (KeepBut.of_grown hg g) (Kd.R_base2 aA.out));clear aA;clear ho hb hg hat))
    go_roundg k1
    case measure=>have:=dC.out;omega
    case rel=>exact ⟨(cP),(wS aW),(bZ),(cA),xE,H',⟨by have:=dC.out;omega⟩,⟨kr (Kd.R_mono cX.out (fun _ hk=>trivial))⟩,⟨IsS96.mv aC.out⟩,⟨km HK.out⟩,⟨IsS96.bl HB.out⟩⟩
   rw [if_neg c5] at H
   have dH:=decide_eq_false c5;clear c5;obtain ⟨⟨dO,bJ,bK⟩,cQ,H⟩:=hB H
   try dsimp only at H
   have dG:=aM cQ;clear cQ
   by_cases cG:dO=true
   case neg =>
    replace cG:=Bool.eq_false_iff.mpr cG;subst cG;replace H:=hF H;simp only [Option.some.injEq,Prod.mk.injEq] at H;obtain ⟨rfl,rfl,rfl⟩:=H;go_wp2_with (first|((with_reducible refine gC (f:=60) rfl ?_);refine goesL_ (some 8) rfl rfl Tryd.func60 (by kernel_rfl) rfl #[.pointer (some ⟨g,0,none⟩),.int .i64 4] rfl xR ?_;(with_reducible refine (Z3.calls g aD aG aH 4 bP aN aQ w0 _ ?side1 ?side2 A4.out).mono ?_);(case side1=>exact IsS96.mv aC.out);(case side2=>exact IsS96.bl HB.out);rintro e eK ⟨rfl,hi,hb,hk⟩;refine ⟨_,rfl,?_⟩;replace aA:=aM (IsS96.rJ aD aG aH (IsS96.mv aC.out) (kr aA.out) hk);replace HK:=aM (KeepBut.trans (km HK.out) hk (.inl rfl));replace HB:=aM (hb);replace aC:=aM (hi);(repeat first|clear hb|clear hk|clear hi))|((with_reducible refine gC (f:=56) rfl ?_);refine goesL_ (some 19) rfl rfl Tryd.func56 (by kernel_rfl) rfl #[.pointer (some ⟨g,0,none⟩),.int .i64 3] rfl xR ?_;(with_reducible refine (Z44.calls g aD aN aQ 3 false bJ bK w0 _ ?side1 ?side2 dG.out).mono ?_);(case side1=>exact IsS96.mv aC.out);(case side2=>exact IsS96.bl HB.out);rintro e eL ⟨rfl,hi,hb,hk⟩;refine ⟨_,rfl,?_⟩;replace aA:=aM (IsS96.rJ aD aN aQ (IsS96.mv aC.out) (kr aA.out) hk);replace HK:=aM (KeepBut.trans (km HK.out) hk (.inl rfl));replace HB:=aM (hb);replace aC:=aM (hi);(repeat first|clear hb|clear hk|clear hi)))
    go_ret
    exact ⟨_,xW,kr aA.out,IsS96.mv aC.out,IsS96.bl HB.out,km HK.out⟩
   subst cG;replace H:=hP H rfl;obtain ⟨cC,bH⟩:∃ y_:List Int,y_=(([0,128,255]:List Int)):=⟨_,rfl⟩;replace H:((Z18.f aD bJ bK cC).bind fun bT=>((Z3.f aD bT.2.1 bT.2.2 3).bind fun bU=>((some (([(bT.1) % 256,(bU.1) % 256]:List Int):List Int)).bind fun aX=>(if aJ.length+aX.length<140737488355328 then (some ((aJ++aX),bU.2.1,bU.2.2)) else (none)))))=some (r1,r2,r3):=by (rw [bH];with_reducible exact H)
   have cH:=aM bH;clear bH;obtain ⟨⟨bN,bV,bW⟩,cR,H⟩:=hB H
   try dsimp only at H
   have dX:=aM cR;clear cR;obtain ⟨⟨bO,cS,cT⟩,cU,H⟩:=hB H
   try dsimp only at H
   have dY:=aM cU;clear cU;obtain ⟨aX,cK,H⟩:=hS H;have cL:=aM cK;clear cK
   by_cases cN:aJ.length+aX.length<140737488355328
   case neg =>
    rw [if_neg cN] at H
    exact absurd H (by simp)
   rw [if_pos cN] at H
   have LMc21:=aM cN;clear cN;obtain ⟨dP,bI⟩:∃ y_:List Int,y_=(aJ++aX):=⟨_,rfl⟩;replace H:(some (dP,cS,cT))=some (r1,r2,r3):=by (rw [bI];with_reducible exact H)
   have cY:=aM bI;clear bI;simp only [Option.some.injEq,Prod.mk.injEq] at H;obtain ⟨rfl,rfl,rfl⟩:=H;go_wp2_with (first|((with_reducible refine gC (f:=60) rfl ?_);refine goesL_ (some 8) rfl rfl Tryd.func60 (by kernel_rfl) rfl #[.pointer (some ⟨g,0,none⟩),.int .i64 4] rfl xR ?_;(with_reducible refine (Z3.calls g aD aG aH 4 bP aN aQ w0 _ ?side1 ?side2 A4.out).mono ?_);(case side1=>exact IsS96.mv aC.out);(case side2=>exact IsS96.bl HB.out);rintro e eM ⟨rfl,hi,hb,hk⟩;refine ⟨_,rfl,?_⟩;replace aA:=aM (IsS96.rJ aD aG aH (IsS96.mv aC.out) (kr aA.out) hk);replace HK:=aM (KeepBut.trans (km HK.out) hk (.inl rfl));replace HB:=aM (hb);replace aC:=aM (hi);(repeat first|clear hb|clear hk|clear hi))|((with_reducible refine gC (f:=56) rfl ?_);refine goesL_ (some 19) rfl rfl Tryd.func56 (by kernel_rfl) rfl #[.pointer (some ⟨g,0,none⟩),.int .i64 3] rfl xR ?_;(with_reducible refine (Z44.calls g aD aN aQ 3 true bJ bK w0 _ ?side1 ?side2 dG.out).mono ?_);(case side1=>exact IsS96.mv aC.out);(case side2=>exact IsS96.bl HB.out);rintro e eN ⟨rfl,hi,hb,hk⟩;refine ⟨_,rfl,?_⟩;replace aA:=aM (IsS96.rJ aD aN aQ (IsS96.mv aC.out) (kr aA.out) hk);replace HK:=aM (KeepBut.trans (km HK.out) hk (.inl rfl));replace HB:=aM (hb);replace aC:=aM (hi);(repeat first|clear hb|clear hk|clear hi))|((with_reducible refine gD (N:=22) rfl ?_);refine Kd.R_lit (Kd.int .i64) _ 3 ?hg (N:=22) ?hd (xs:=([0,128,255]:List Int)) (inner:=[.int .i64 0,.int .i64 128,.int .i64 255]) (ok:=fun _=>True) (okp:=fun _=>True) ?hr ?hp (fun _ hk=>hk) trivial (Below.refl _ _) (Nat.le_refl _) (by simp) ?_;(case hd=>rfl);(case hg=>rfl);(case hr=>(go_simp;done));(case hp=>exact (Reps.one (show Kd.M (Kd.int .i64) _ _ _ 0 [.int .i64 0] from rfl) (Reps.one (show Kd.M (Kd.int .i64) _ _ _ 128 [.int .i64 128] from rfl) (Reps.one (show Kd.M (Kd.int .i64) _ _ _ 255 [.int .i64 255] from rfl) (Reps.none _ _)))));intro eD eO ho25 hb hg_ hnew_;clear hg_ hnew_;(rw [← cH.out] at ho25);have aE:=aM (Kd.R_lower ho25 (keep_size (km HK.out)));replace aA:=rK aA hb;replace aC:=aM (IsS96.below (IsS96.mv aC.out) hb);replace HK:=rU HK hb;replace HB:=aM (bS (IsS96.bl HB.out) hb);clear hb ho25;obtain ⟨dQ,dR,dS⟩:=Kd.R_slice aE.out;subst dS)|((with_reducible refine gC (f:=51) rfl ?_);refine goesL_ (some 23) rfl rfl Tryd.func51 (by kernel_rfl) rfl #[.pointer (some ⟨g,0,none⟩),.slice dQ cC.length dR] rfl xR ?_;(with_reducible refine (Z18.calls g aD bJ bK _ _ cC bN bV bW w0 _ ?side1 ?side2 ?side3 ?side4 ?side5 dX.out).mono ?_);(case side1=>exact IsS96.mv aC.out);(case side2=>exact IsS96.bl HB.out);(case side3=>exact cM ((Kd.R_reads' aE.out).2.2));(case side4=>exact (Kd.R_reads' aE.out).2.1);(case side5=>exact far_slice (IsS96.own_ne aC.out aE.out (by decide)));rintro e eP ⟨rfl,hi,hb,hk⟩;refine ⟨_,rfl,?_⟩;replace aA:=aM (IsS96.rJ aD bJ bK (IsS96.mv aC.out) (kr aA.out) hk);replace aE:=aM (IsS96.rJ aD bJ bK (IsS96.mv aC.out) (kr aE.out) hk);replace HK:=aM (KeepBut.trans (km HK.out) hk (.inl rfl));replace HB:=aM (hb);replace aC:=aM (hi);(repeat first|clear hb|clear hk|clear hi))|((with_reducible refine gC (f:=60) rfl ?_);refine goesL_ (some 26) rfl rfl Tryd.func60 (by kernel_rfl) rfl #[.pointer (some ⟨g,0,none⟩),.int .i64 3] rfl xR ?_;(with_reducible refine (Z3.calls g aD bV bW 3 bO cS cT w0 _ ?side1 ?side2 dY.out).mono ?_);(case side1=>exact IsS96.mv aC.out);(case side2=>exact IsS96.bl HB.out);rintro e eQ ⟨rfl,hi,hb,hk⟩;refine ⟨_,rfl,?_⟩;replace aA:=aM (IsS96.rJ aD bV bW (IsS96.mv aC.out) (kr aA.out) hk);replace aE:=aM (IsS96.rJ aD bV bW (IsS96.mv aC.out) (kr aE.out) hk);replace HK:=aM (KeepBut.trans (km HK.out) hk (.inl rfl));replace HB:=aM (hb);replace aC:=aM (hi);(repeat first|clear hb|clear hk|clear hi))|((with_reducible refine gD (N:=28) rfl ?_);refine Kd.R_lit (Kd.int .u8) _ 5 ?hg (N:=28) ?hd (xs:=([(bN) % 256,(bO) % 256]:List Int)) (inner:=[.int .u8 ((bN) % 256),.int .u8 ((bO) % 256)]) (ok:=fun _=>True) (okp:=fun _=>True) ?hr ?hp (fun _ hk=>hk) trivial (Below.refl _ _) (Nat.le_refl _) (by simp) ?_;(case hd=>rfl);(case hg=>rfl);(case hr=>(go_simp;done));(case hp=>exact (Reps.one (show Kd.M (Kd.int .u8) _ _ _ ((bN) % 256) [.int .u8 ((bN) % 256)] from rfl) (Reps.one (show Kd.M (Kd.int .u8) _ _ _ ((bO) % 256) [.int .u8 ((bO) % 256)] from rfl) (Reps.none _ _))));intro eE eR ho30 hb hg_ hnew_;clear hg_ hnew_;(rw [← cL.out] at ho30);have aK:=aM (Kd.R_lower (Kd.R_new' ho30 (Kd.R_lt (kr aA.out))) (keep_size (km HK.out)));replace aA:=aM (Kd.R_elder' (kr aA.out) (Kd.R_base ho30) hb);replace aE:=rK aE hb;replace aC:=aM (IsS96.below (IsS96.mv aC.out) hb);replace HK:=rU HK hb;replace HB:=aM (bS (IsS96.bl HB.out) hb);clear hb ho30;obtain ⟨dU,dV,dW⟩:=Kd.R_slice aK.out;subst dW)|((with_reducible refine gate_builtin (b:=.append) (xs:=#[.tmp 20,.tmp 28]) rfl ?_);at_builtin;refine Kd.R_append_rows (Kd.int .u8) w.heap.size rfl (.tmp 20) (.tmp 28) 22 5 (.int .u8 0) 1 rfl Tryd.underlying22 info5 rfl (by decide) (by omega) u3 aJ aX _ _ _ (fun k_=>some k_≠(.slice dU aX.length dV:Value).ownBlock) (fun _=>False) rfl rfl ?aO ?aR (fun _ _ h=>h) (fun _ h=>h.elim) ?aF (Below.refl _ _) ?aS ?aL ?_;(case aR=>repeat (exact (Kd.R_reads' aK.out).2.2));(case aF=>exact (fun k_ hk=>Kd.fresh' (Kd.R_lt (kr aK.out)) k_ hk));(case aO=>exact (kr (Kd.R_mono aA.out (fun _ hk=>hk.2))));(case aS=>exact (keep_size (km HK.out)));(case aL=>have:=LMc21.out;omega);intro eF eS ho hb hg hat;rw [← cY.out] at ho;have dA:=aM (ho);replace aC:=aM (IsS96.grown (IsS96.mv aC.out) hg (IsS96.own_ne aC.out aA.out (by decide)));replace aE:=aM (Kd.R_over' (kr aE.out) (Kd.R_typed (kr aA.out)) (by decide) hg);replace aK:=aM (Kd.R_after (ok:=(fun _=>True)) (kr aK.out) hg hat);replace HB:=aM (below_weaken (IsS96.bl HB.out) HL.out hb);replace HK:=aM (KeepBut.trans (km HK.out) (KeepBut.of_grown hg g) (Kd.R_base2 aA.out));clear aA;clear ho hb hg hat))
   go_ret
   exact ⟨_,xW,kr (Kd.R_mono dA.out (fun _ hk=>trivial)),IsS96.mv aC.out,IsS96.bl HB.out,km HK.out⟩

def Z56.f (k:Nat) (l0:List Int):Option (List Int × Int):=(Z16.f k l0).bind fun aC=>((Z51.f aC.1 aC.2.1 aC.2.2).bind fun aA=>((Z28.f k aA.1 aA.2.1 aA.2.2.1 aA.2.2.2.1 aA.2.2.2.2.1 aA.2.2.2.2.2.1 aA.2.2.2.2.2.2.1 aA.2.2.2.2.2.2.2.1).bind fun aG=>((Z36.f k aC.1 aA.2.2.2.2.2.2.2.2.1 aA.2.2.2.2.2.2.2.2.2).bind fun aD=>(if aG.length+aD.1.length<140737488355328 then ((Z71.f aC.1 aD.2.1 aD.2.2 (aG++aD.1)).bind fun aE=>((Z18.f aC.1 aE.2.1 aE.2.2 (([0,0,0,1,(aE.1.length:Int),(-1),9223372036854775807]:List Int))).bind fun aH=>(some (aE.1,aH.1)))) else (none)))))
theorem Z56.mono:∀ a0 k,LeO (Z56.f k a0) (Z56.f (k+1) a0):=by
 intro a0 k;unfold Z56.f
 repeat' (with_reducible first|apply Z28.mono|apply Z36.mono|apply Z16.mono|exact lR _|refine lB ?_ fun _=>?_)
set_option maxHeartbeats 60000000 in
set_option maxRecDepth 100000 in
theorem Z56.calls (k:Nat) (A0:Option Addr) (c0:Nat) (l0:List Int) (r1:List Int) (r2:Int) (w:World) (hr0:Kd.C (Kd.int .u8) w A0 l0.length l0) (hc0:l0.length≤c0) (h:Z56.f k l0=some (r1,r2)) :
  Calls Tryd.prog 8 #[.slice A0 l0.length c0] w fun e w'=>∃ cK:Value,e=.returned (.tuple #[cK,r2])∧Kd.R (Kd.int .u8) 5 w' w.heap.size (fun _=>True) cK r1∧Below w.heap.size w w':=by
 have dE:=aM hr0;have dF:=aM hc0;clear hr0 hc0;have HB:=aM (Below.refl w.heap.size w);have H:((Z16.f k l0).bind fun aJ=>((Z51.f aJ.1 aJ.2.1 aJ.2.2).bind fun aD=>((Z28.f k aD.1 aD.2.1 aD.2.2.1 aD.2.2.2.1 aD.2.2.2.2.1 aD.2.2.2.2.2.1 aD.2.2.2.2.2.2.1 aD.2.2.2.2.2.2.2.1).bind fun aN=>((Z36.f k aJ.1 aD.2.2.2.2.2.2.2.2.1 aD.2.2.2.2.2.2.2.2.2).bind fun bG=>(if aN.length+bG.1.length<140737488355328 then ((Z71.f aJ.1 bG.2.1 bG.2.2 (aN++bG.1)).bind fun aG=>((Z18.f aJ.1 aG.2.1 aG.2.2 (([0,0,0,1,(aG.1.length:Int),(-1),9223372036854775807]:List Int))).bind fun aT=>(some (aG.1,aT.1)))) else (none))))))=some (r1,r2):=h
 clear h;obtain ⟨⟨aE,cC,cD⟩,cL,H⟩:=hB H
 try dsimp only at H
 have A2:=aM cL;clear cL;obtain ⟨⟨bJ,bK,bL,bM,bN,bO,bP,bQ,bT,bU⟩,cN,H⟩:=hB H
 try dsimp only at H
 have A3:=aM cN;clear cN;obtain ⟨aN,cO,H⟩:=hB H;have A4:=aM cO;clear cO;obtain ⟨⟨aX,bV,bW⟩,cP,H⟩:=hB H
 try dsimp only at H
 have A5:=aM cP;clear cP
 by_cases c6:aN.length+aX.length<140737488355328
 case neg =>
  rw [if_neg c6] at H
  exact absurd H (by simp)
 rw [if_pos c6] at H
 have LMc6:=aM c6;clear c6;obtain ⟨bH,aV⟩:∃ y_:List Int,y_=(aN++aX):=⟨_,rfl⟩;replace H:((Z71.f aE bV bW bH).bind fun aG=>((Z18.f aE aG.2.1 aG.2.2 (([0,0,0,1,(aG.1.length:Int),(-1),9223372036854775807]:List Int))).bind fun aT=>(some (aG.1,aT.1))))=some (r1,r2):=by (rw [aV];with_reducible exact H)
 have cH:=aM aV;clear aV;obtain ⟨⟨aQ,bA,bD⟩,cQ,H⟩:=hB H
 try dsimp only at H
 have A7:=aM cQ;clear cQ;obtain ⟨bX,aW⟩:∃ y_:List Int,y_=(([0,0,0,1,(aQ.length:Int),(-1),9223372036854775807]:List Int)):=⟨_,rfl⟩;replace H:((Z18.f aE bA bD bX).bind fun aT=>(some (aQ,aT.1)))=some (r1,r2):=by (rw [aW];with_reducible exact H)
 have cA:=aM aW;clear aW;obtain ⟨⟨cS,cT,cU⟩,cR,H⟩:=hB H
 try dsimp only at H
 have A8:=aM cR;clear cR;simp only [Option.some.injEq,Prod.mk.injEq] at H;obtain ⟨rfl,rfl⟩:=H;go_enter Tryd.func8,Tryd.ntmps8
 go_wp2_with (first|((with_reducible refine gC (f:=44) rfl ?_);refine goesL_ (some 7) rfl rfl Tryd.func44 (by kernel_rfl) rfl #[.slice A0 l0.length c0] rfl xR ?_;(with_reducible refine (Z16.calls k _ _ l0 aE cC cD w _ ?side1 ?side2 ?side3 A2.out).mono ?_);(case side1=>exact bl HB.out);(case side2=>exact dE.out);(case side3=>exact dF.out);rintro e w9 ⟨g443,rfl,hi,hb,hb2⟩;refine ⟨_,rfl,?_⟩;have aA:=aM (hi);replace HB:=aM (hb);(repeat first|clear hb|clear hb2|clear hi))|((with_reducible refine gC (f:=49) rfl ?_);refine goesL_ (some 10) rfl rfl Tryd.func49 (by kernel_rfl) rfl #[.pointer (some ⟨g443,0,none⟩)] rfl xR ?_;(with_reducible refine (Z51.calls g443 aE cC cD bJ bK bL bM bN bO bP bQ bT bU w _ ?side1 ?side2 A3.out).mono ?_);(case side1=>exact IsS96.mv aA.out);(case side2=>exact IsS96.bl HB.out);rintro e dL ⟨rfl,hi,hb,hk⟩;refine ⟨_,rfl,?_⟩;replace HB:=aM (hb);replace aA:=aM (hi);(repeat first|clear hb|clear hk|clear hi))|((with_reducible refine gC (f:=18) rfl ?_);refine goesL_ (some 11) rfl rfl Tryd.func18 (by kernel_rfl) rfl #[.agg #[bJ,bK,bL,bM,bN,bO,bP,bQ]] rfl xR ?_;(with_reducible refine (Z28.calls k bJ bK bL bM bN bO bP bQ aN _ A4.out).mono ?_);rintro e dM ⟨cV,rfl,ho0,hb⟩;refine ⟨_,rfl,?_⟩;have aK:=aM (Kd.R_lower ho0 (below_size (IsS96.bl HB.out)));replace aA:=aM (IsS96.below (IsS96.mv aA.out) hb);replace HB:=aM (bS (IsS96.bl HB.out) hb);(repeat first|clear hb|clear ho0))|((with_reducible refine gC (f:=50) rfl ?_);refine goesL_ (some 13) rfl rfl Tryd.func50 (by kernel_rfl) rfl #[.pointer (some ⟨g443,0,none⟩)] rfl xR ?_;(with_reducible refine (Z36.calls k g443 aE bT bU aX bV bW w _ ?side1 ?side2 A5.out).mono ?_);(case side1=>exact IsS96.mv aA.out);(case side2=>exact IsS96.bl HB.out);rintro e dN ⟨dG,rfl,ho0,hi,hb,hk⟩;refine ⟨_,rfl,?_⟩;have aC:=aM (Kd.R_lower (Kd.R_new' ho0 (Kd.R_lt (kr aK.out))) (below_size (IsS96.bl HB.out)));replace aK:=aM (Kd.R_mono (Kd.R_told (Kd.R_oldK (IsS96.apart (show IsS96 w _ g443 aE bT bU from IsS96.mv aA.out) (kr aK.out) (by decide)) hk) (Kd.R_base ho0)) (fun _ h_=>h_.1));replace HB:=aM (hb);replace aA:=aM (hi);(repeat first|clear hb|clear hk|clear hi|clear ho0);obtain ⟨cE,cG,cW⟩:=Kd.R_slice aC.out;subst cW)|((with_reducible refine gate_builtin (b:=.append) (xs:=#[.tmp 11,.tmp 13]) rfl ?_);at_builtin;refine Kd.R_append_rows (Kd.int .u8) (w0:=w) w.heap.size rfl (.tmp 11) (.tmp 13) 22 5 (.int .u8 0) 1 rfl Tryd.underlying22 info5 rfl (by decide) (by omega) cV aN aX _ _ _ (fun k_=>some k_≠(.slice cE aX.length cG:Value).ownBlock) (fun _=>False) rfl rfl ?aO ?aR (fun _ _ h=>h) (fun _ h=>h.elim) ?aF ?aB ?aS ?aL ?_;(case aR=>repeat (exact (Kd.R_reads' aC.out).2.2));(case aB=>exact (IsS96.bl HB.out));(case aF=>exact (fun k_ hk=>Kd.fresh' (Kd.R_lt (kr aC.out)) k_ hk));(case aO=>exact (kr (Kd.R_mono aK.out (fun _ hk=>hk.2))));(case aS=>exact (below_size (IsS96.bl HB.out)));(case aL=>have:=LMc6.out;omega);intro dH dO ho hb hg hat;rw [← cH.out] at ho;have bI:=aM (ho);replace aA:=aM (IsS96.grown (IsS96.mv aA.out) hg (IsS96.own_ne aA.out aK.out (by decide)));replace aC:=aM (Kd.R_after (ok:=(fun _=>True)) (kr aC.out) hg hat);replace HB:=aM (hb);clear aK;clear ho hb hg hat;obtain ⟨bY,bZ,cX⟩:=Kd.R_slice bI.out;subst cX)|((with_reducible refine gC (f:=48) rfl ?_);refine goesL_ (some 15) rfl rfl Tryd.func48 (by kernel_rfl) rfl #[.pointer (some ⟨g443,0,none⟩),.slice bY bH.length bZ] rfl xR ?_;(with_reducible refine (Z71.calls g443 aE bV bW (fun k_=>some k_=(.slice bY bH.length bZ:Value).ownBlock) (.slice bY bH.length bZ) bH aQ bA bD w _ ?side1 ?side2 ?side3 A7.out).mono ?_);(case side1=>exact IsS96.mv aA.out);(case side2=>exact IsS96.bl HB.out);(case side3=>exact Kd.R_tight rfl bI.out);rintro e dP ⟨cY,rfl,ho0,hi,hb,hkp⟩;refine ⟨_,rfl,?_⟩;have aH:=aM (Kd.R_mono (ok':=fun k_=>some k_≠(.slice cE aX.length cG:Value).ownBlock) ho0 (fun k_ hk_=>Or.elim hk_ (fun hs_=>fun e_=>((((IsS96.apart aA.out aC.out (by decide))).1 k_ e_.symm).1.2) hs_) (fun hn_=>(Kd.fresh' (Kd.R_lt (kr aC.out)) k_ hn_))));replace aC:=aM (Kd.R_mono (ok':=fun k_=>some k_≠(cY:Value).ownBlock) (Kd.R_keptB ((IsS96.apart aA.out aC.out (by decide))) hkp (fun k_ hk_ hs_=>Or.elim hs_ (fun hs_=>(hk_.1.2) hs_) (fun e_=>(hk_.2) e_))) (fun k_ hk_=>fun e_=>Or.elim (ho0.1 k_ e_.symm) (fun hs_=>hk_.2.1 (.inl hs_)) (fun hn_=>Nat.not_le.2 hk_.2.2 hn_)));replace aA:=aM (hi);replace HB:=aM (hb);clear bI;(repeat first|clear hb|clear hkp|clear ho0);obtain ⟨dI,dJ,dA⟩:=Kd.R_slice aH.out;subst dA)|((with_reducible refine gD (N:=20) rfl ?_);refine Kd.R_lit (Kd.int .i64) _ 3 ?hg (N:=20) ?hd (xs:=([0,0,0,1,(aQ.length:Int),(-1),9223372036854775807]:List Int)) (inner:=[.int .i64 0,.int .i64 0,.int .i64 0,.int .i64 1,.int .i64 (aQ.length:Int),.int .i64 (-1),.int .i64 9223372036854775807]) (ok:=fun _=>True) (okp:=fun _=>True) ?hr ?hp (fun _ hk=>hk) trivial (Below.refl _ _) (Nat.le_refl _) (by simp) ?_;(case hd=>rfl);(case hg=>rfl);(case hr=>(go_simp;done));(case hp=>exact (Reps.one (show Kd.M (Kd.int .i64) _ _ _ 0 [.int .i64 0] from rfl) (Reps.one (show Kd.M (Kd.int .i64) _ _ _ 0 [.int .i64 0] from rfl) (Reps.one (show Kd.M (Kd.int .i64) _ _ _ 0 [.int .i64 0] from rfl) (Reps.one (show Kd.M (Kd.int .i64) _ _ _ 1 [.int .i64 1] from rfl) (Reps.one (show Kd.M (Kd.int .i64) _ _ _ (aQ.length:Int) [.int .i64 (aQ.length:Int)] from rfl) (Reps.one (show Kd.M (Kd.int .i64) _ _ _ (-1) [.int .i64 (-1)] from rfl) (Reps.one (show Kd.M (Kd.int .i64) _ _ _ 9223372036854775807 [.int .i64 9223372036854775807] from rfl) (Reps.none _ _)))))))));intro dK dQ ho19 hb hg_ hnew_;clear hg_ hnew_;(rw [← cA.out] at ho19);have aI:=aM (Kd.R_lower ho19 (below_size (IsS96.bl HB.out)));replace aC:=rK aC hb;replace aH:=rK aH hb;replace aA:=aM (IsS96.below (IsS96.mv aA.out) hb);replace HB:=aM (bS (IsS96.bl HB.out) hb);clear hb ho19;obtain ⟨dB,dC,dD⟩:=Kd.R_slice aI.out;subst dD)|((with_reducible refine gC (f:=51) rfl ?_);refine goesL_ (some 21) rfl rfl Tryd.func51 (by kernel_rfl) rfl #[.pointer (some ⟨g443,0,none⟩),.slice dB bX.length dC] rfl xR ?_;(with_reducible refine (Z18.calls g443 aE bA bD _ _ bX cS cT cU w _ ?side1 ?side2 ?side3 ?side4 ?side5 A8.out).mono ?_);(case side1=>exact IsS96.mv aA.out);(case side2=>exact IsS96.bl HB.out);(case side3=>exact cM ((Kd.R_reads' aI.out).2.2));(case side4=>exact (Kd.R_reads' aI.out).2.1);(case side5=>exact far_slice (IsS96.own_ne aA.out aI.out (by decide)));rintro e dR ⟨rfl,hi,hb,hk⟩;refine ⟨_,rfl,?_⟩;replace aC:=aM (IsS96.rJ aE bA bD (IsS96.mv aA.out) (kr aC.out) hk);replace aH:=aM (IsS96.rJ aE bA bD (IsS96.mv aA.out) (kr aH.out) hk);replace aI:=aM (IsS96.rJ aE bA bD (IsS96.mv aA.out) (kr aI.out) hk);replace HB:=aM (hb);replace aA:=aM (hi);(repeat first|clear hb|clear hk|clear hi)))
 go_ret2
 exact ⟨_,xW,kr (Kd.R_mono aH.out (fun _ hk=>trivial)),IsS96.bl HB.out⟩

end Go.Proofs.YtljbdchibfjbdaaDoor.PFnIns
