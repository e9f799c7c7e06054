/- A part of the proof of laws.FnIns. No condition beyond what its theorems say. -/
/- The machine side of laws.FnIns: where the plain function of that name answers true, its call returns true. No condition beyond what its arguments read as. -/
import Derived.Test.YtljbdchibfjbdaaDoorVFnInsPx11
import Derived.Test.YtljbdchibfjbdaaDoorVFnInsPx27
namespace Go.Proofs.YtljbdchibfjbdaaDoor.PFnIns
open Go.RowKit Go.Proofs.YtljbdchibfjbdaaDoorW.PrintWords Go.Proofs.YtljbdchibfjbdaaDoorW.PrintLast Go.Proofs.YtljbdchibfjbdaaDoorW.PrintMore Go.Proofs.YtljbdchibfjbdaaDoor.Tabs
attribute [local go_sem] clipV_slice
set_option linter.unusedVariables false
set_option linter.unusedSimpArgs false
attribute [local go_sem high] eqA25 eqA27

theorem fld25_0 (w:World) (x0:Int) (x1:Int) (x2:Int) (x3:Int):(Instr.field 25 (.agg #[.int .i64 x0,.int .i64 x1,.int .i64 x2,.int .i64 x3]) 0).run Tryd.prog w=.ok (.int .i64 x0) w:=by kernel_rfl
theorem fld25_1 (w:World) (x0:Int) (x1:Int) (x2:Int) (x3:Int):(Instr.field 25 (.agg #[.int .i64 x0,.int .i64 x1,.int .i64 x2,.int .i64 x3]) 1).run Tryd.prog w=.ok (.int .i64 x1) w:=by kernel_rfl
theorem fld25_2 (w:World) (x0:Int) (x1:Int) (x2:Int) (x3:Int):(Instr.field 25 (.agg #[.int .i64 x0,.int .i64 x1,.int .i64 x2,.int .i64 x3]) 2).run Tryd.prog w=.ok (.int .i64 x2) w:=by kernel_rfl
theorem fld25_3 (w:World) (x0:Int) (x1:Int) (x2:Int) (x3:Int):(Instr.field 25 (.agg #[.int .i64 x0,.int .i64 x1,.int .i64 x2,.int .i64 x3]) 3).run Tryd.prog w=.ok (.int .i64 x3) w:=by kernel_rfl
attribute [local go_sem high] fld25_0 fld25_1 fld25_2 fld25_3
theorem clip_string {w:World} {base:Nat} {ok:Nat→Prop} {v:Value} {xs:List Int} (h:Kd.R (Kd.int .u8) 5 w base ok v xs):(convert 22 9 (clipV v)).run Tryd.prog w=.ok (.string (strOfNums xs)) w:=by
 obtain ⟨A,c,rfl⟩:=Kd.R_slice h;exact Kd.C_string (P:=Tryd.prog) (A:=A) (c:=xs.length) Tryd.underlying22 Tryd.underlying5 Tryd.underlying9 (Kd.R_reads' h).2.2
mutual
def Z0.j0:Nat→List Int→List (S27)→List Int→List Int→List (S27)→Int→Bool→Int→Int→Int→Int→Int→Int→Int→Bool→Option (Bool)
 | 0,_,_,_,_,_,_,_,_,_,_,_,_,_,_,_=>none
 | k+1,x4,aV,aW,aQ,aX,aK,aT,aA,aC,aD,aE,aG,aH,aI,aJ=>if aT=true then (some false) else ((Z23.f k aX).bind fun aN=>(if 0≤aK then (if aK≤(aQ.length:Int) then (if (strOfNums aN).toList=(strOfNums (aQ.take (aK:Int).toNat)).toList then (Z0.l0 k x4 aV aW true 0 aA aC aD aE aG aH aI aJ) else (some false)) else (none)) else (none)))
def Z0.l0:Nat→List Int→List (S27)→List Int→Bool→Int→Int→Int→Int→Int→Int→Int→Int→Bool→Option (Bool)
 | 0,_,_,_,_,_,_,_,_,_,_,_,_,_=>none
 | k+1,x4,aK,aT,aW,aN,aA,aC,aD,aE,aG,aH,aI,aJ=>if aN<(aK.length:Int) then (if aW=true then (if 0≤aN then ((Z49.f ((rd_T27 aK aN).f0) ((rd_T27 aK aN).f1) ((rd_T27 aK aN).f2.f0) ((rd_T27 aK aN).f2.f1) ((rd_T27 aK aN).f2.f2) ((rd_T27 aK aN).f2.f3) ((rd_T27 aK aN).f3) ((rd_T27 aK aN).f4)).bind fun aV=>(Z0.l0 k x4 aK aT aV (wrap64 (aN+1)) aA aC aD aE aG aH aI aJ)) else (none)) else (Z0.l0 k x4 aK aT false (wrap64 (aN+1)) aA aC aD aE aG aH aI aJ)) else (if aW=true then ((Z27.f k aT).bind fun aQ=>(if aQ.2=(aT.length:Int) then (Z0.j2 k x4 aK aQ.1 ((aQ.1.length:Int) != (aK.length:Int)) aA aC aD aE aG aH aI aJ) else (Z0.j2 k x4 aK aQ.1 true aA aC aD aE aG aH aI aJ))) else (Z0.j4 k x4 aA aC aD aE aG aH aI aJ))
def Z0.j4:Nat→List Int→Int→Int→Int→Int→Int→Int→Int→Bool→Option (Bool)
 | 0,_,_,_,_,_,_,_,_,_=>none
 | k+1,x4,aC,aD,aE,aG,aH,aI,aJ,aK=>(Z49.f aC aD aE aG aH aI aJ aK).bind fun aN=>(if aN=true then ((Z13.f k x4 0).bind fun aA=>(if aA.2.2.2.2.2.2.2.2.2=true then (if aA.2.2.2.2.2.2.2.2.1=(x4.length:Int) then (some (aA.1 == aC && (aA.2.1 == aD && ((aA.2.2.1 == aE && (aA.2.2.2.1 == aG && (aA.2.2.2.2.1 == aH && (aA.2.2.2.2.2.1 == aI)))) && (aA.2.2.2.2.2.2.1 == aJ && (aA.2.2.2.2.2.2.2.1 == aK)))))) else (some false)) else (some false))) else (some ((x4.length:Int) == 0)))
def Z0.j2:Nat→List Int→List (S27)→List (S27)→Bool→Int→Int→Int→Int→Int→Int→Int→Bool→Option (Bool)
 | 0,_,_,_,_,_,_,_,_,_,_,_,_=>none
 | k+1,x4,aN,aQ,aK,aA,aC,aD,aE,aG,aH,aI,aJ=>if aK=true then (some false) else (Z0.l1 k x4 aN aQ 0 aA aC aD aE aG aH aI aJ)
def Z0.l1:Nat→List Int→List (S27)→List (S27)→Int→Int→Int→Int→Int→Int→Int→Int→Bool→Option (Bool)
 | 0,_,_,_,_,_,_,_,_,_,_,_,_=>none
 | k+1,x4,aC,aD,aA,aE,aG,aH,aI,aJ,aK,aN,aQ=>if aA<(aC.length:Int) then (if 0≤aA then (if aA<(aD.length:Int) then (if (!(((rd_T27 aD aA).f0) == ((rd_T27 aC aA).f0)) || (!(((rd_T27 aD aA).f1) == ((rd_T27 aC aA).f1)) || ((!(((rd_T27 aD aA).f2.f0) == ((rd_T27 aC aA).f2.f0)) || (!(((rd_T27 aD aA).f2.f1) == ((rd_T27 aC aA).f2.f1)) || (!(((rd_T27 aD aA).f2.f2) == ((rd_T27 aC aA).f2.f2)) || (!(((rd_T27 aD aA).f2.f3) == ((rd_T27 aC aA).f2.f3)))))) || (!(((rd_T27 aD aA).f3) == ((rd_T27 aC aA).f3)) || (!(((rd_T27 aD aA).f4) == ((rd_T27 aC aA).f4)))))))=true then (some false) else (Z0.l1 k x4 aC aD (wrap64 (aA+1)) aE aG aH aI aJ aK aN aQ)) else (none)) else (none)) else (Z0.j4 k x4 aE aG aH aI aJ aK aN aQ)
end
def Z0.f (k:Nat) (l0:List Int):Option (Bool):=(Z78.f l0).bind fun aV=>(if aV=true then (some true) else ((Z59.f k l0).bind fun aA=>((Z38.f k aA.1 aA.2.1 aA.2.2.1 aA.2.2.2.1 aA.2.2.2.2.1 aA.2.2.2.2.2.1 aA.2.2.2.2.2.2.1 aA.2.2.2.2.2.2.2).bind fun aK=>((Z56.f k l0).bind fun aQ=>((Z13.f k aQ.1 aQ.2).bind fun aG=>((Z7.f k aQ.1 aQ.2).bind fun aH=>((Z60.f k l0).bind fun aI=>((Z23.f k aI).bind fun aN=>((Z55.f k l0).bind fun aJ=>((Z27.f k aJ).bind fun aC=>((Z30.f k aJ).bind fun aT=>((Z62.f k l0).bind fun aD=>((Z32.f k l0).bind fun aE=>((Z28.f k aA.1 aA.2.1 aA.2.2.1 aA.2.2.2.1 aA.2.2.2.2.1 aA.2.2.2.2.2.1 aA.2.2.2.2.2.2.1 aA.2.2.2.2.2.2.2).bind fun aW=>(if (strOfNums aK).toList=(strOfNums aW).toList then (if (aG.2.2.2.2.2.2.2.2.2 != aH.2.2.2.2.2.2.2.2.2)=true then (Z0.j0 k aK aI aN aJ aC.1 aC.2 true aA.1 aA.2.1 aA.2.2.1 aA.2.2.2.1 aA.2.2.2.2.1 aA.2.2.2.2.2.1 aA.2.2.2.2.2.2.1 aA.2.2.2.2.2.2.2) else (if aG.2.2.2.2.2.2.2.2.1=aH.2.2.2.2.2.2.2.2.1 then (if (!(aG.1 == aH.1) || (!(aG.2.1 == aH.2.1) || ((!(aG.2.2.1 == aH.2.2.1) || (!(aG.2.2.2.1 == aH.2.2.2.1) || (!(aG.2.2.2.2.1 == aH.2.2.2.2.1) || (!(aG.2.2.2.2.2.1 == aH.2.2.2.2.2.1))))) || (!(aG.2.2.2.2.2.2.1 == aH.2.2.2.2.2.2.1) || (!(aG.2.2.2.2.2.2.2.1 == aH.2.2.2.2.2.2.2.1))))))=true then (Z0.j0 k aK aI aN aJ aC.1 aC.2 true aA.1 aA.2.1 aA.2.2.1 aA.2.2.2.1 aA.2.2.2.2.1 aA.2.2.2.2.2.1 aA.2.2.2.2.2.2.1 aA.2.2.2.2.2.2.2) else ((Z22.f k aI).bind fun aX=>(if (strOfNums aN).toList=(strOfNums aX).toList then (if aC.2=aT.2 then (if (aC.1.length:Int)=(aT.1.length:Int) then ((Z64.f k aD.1 aD.2.1 aD.2.2.1 aD.2.2.2.1 aD.2.2.2.2.1 aD.2.2.2.2.2.1 aD.2.2.2.2.2.2.1 aD.2.2.2.2.2.2.2).bind fun bA=>((Z57.f k aD.1 aD.2.1 aD.2.2.1 aD.2.2.2.1 aD.2.2.2.2.1 aD.2.2.2.2.2.1 aD.2.2.2.2.2.2.1 aD.2.2.2.2.2.2.2).bind fun bD=>(if bA.toList=bD.toList then ((Z58.f k aE.1 aE.2.1 aE.2.2.1 aE.2.2.2.1 aE.2.2.2.2.1 aE.2.2.2.2.2.1 aE.2.2.2.2.2.2.1 aE.2.2.2.2.2.2.2).bind fun bG=>((Z61.f k aE.1 aE.2.1 aE.2.2.1 aE.2.2.2.1 aE.2.2.2.2.1 aE.2.2.2.2.2.1 aE.2.2.2.2.2.2.1 aE.2.2.2.2.2.2.2).bind fun bH=>(if bG.toList=bH.toList then ((Z49.f aA.1 aA.2.1 aA.2.2.1 aA.2.2.2.1 aA.2.2.2.2.1 aA.2.2.2.2.2.1 aA.2.2.2.2.2.2.1 aA.2.2.2.2.2.2.2).bind fun bI=>((Z63.f aA.1 aA.2.1 aA.2.2.1 aA.2.2.2.1 aA.2.2.2.2.1 aA.2.2.2.2.2.1 aA.2.2.2.2.2.2.1 aA.2.2.2.2.2.2.2).bind fun bJ=>(Z0.j0 k aK aI aN aJ aC.1 aC.2 (bI != bJ) aA.1 aA.2.1 aA.2.2.1 aA.2.2.2.1 aA.2.2.2.2.1 aA.2.2.2.2.2.1 aA.2.2.2.2.2.2.1 aA.2.2.2.2.2.2.2))) else (Z0.j0 k aK aI aN aJ aC.1 aC.2 true aA.1 aA.2.1 aA.2.2.1 aA.2.2.2.1 aA.2.2.2.2.1 aA.2.2.2.2.2.1 aA.2.2.2.2.2.2.1 aA.2.2.2.2.2.2.2)))) else (Z0.j0 k aK aI aN aJ aC.1 aC.2 true aA.1 aA.2.1 aA.2.2.1 aA.2.2.2.1 aA.2.2.2.2.1 aA.2.2.2.2.2.1 aA.2.2.2.2.2.2.1 aA.2.2.2.2.2.2.2)))) else (Z0.j0 k aK aI aN aJ aC.1 aC.2 true aA.1 aA.2.1 aA.2.2.1 aA.2.2.2.1 aA.2.2.2.2.1 aA.2.2.2.2.2.1 aA.2.2.2.2.2.2.1 aA.2.2.2.2.2.2.2)) else (Z0.j0 k aK aI aN aJ aC.1 aC.2 true aA.1 aA.2.1 aA.2.2.1 aA.2.2.2.1 aA.2.2.2.2.1 aA.2.2.2.2.2.1 aA.2.2.2.2.2.2.1 aA.2.2.2.2.2.2.2)) else (Z0.j0 k aK aI aN aJ aC.1 aC.2 true aA.1 aA.2.1 aA.2.2.1 aA.2.2.2.1 aA.2.2.2.2.1 aA.2.2.2.2.2.1 aA.2.2.2.2.2.2.1 aA.2.2.2.2.2.2.2)))) else (Z0.j0 k aK aI aN aJ aC.1 aC.2 true aA.1 aA.2.1 aA.2.2.1 aA.2.2.2.1 aA.2.2.2.2.1 aA.2.2.2.2.2.1 aA.2.2.2.2.2.2.1 aA.2.2.2.2.2.2.2))) else (Z0.j0 k aK aI aN aJ aC.1 aC.2 true aA.1 aA.2.1 aA.2.2.1 aA.2.2.2.1 aA.2.2.2.2.1 aA.2.2.2.2.2.1 aA.2.2.2.2.2.2.1 aA.2.2.2.2.2.2.2))))))))))))))))
theorem Z0.mono_l:∀ k,(∀ y0 y1 y2 y3 y4 y5 y6 y7 y8 y9 aA aC aD aE aG,LeO (Z0.j0 k y0 y1 y2 y3 y4 y5 y6 y7 y8 y9 aA aC aD aE aG) (Z0.j0 (k+1) y0 y1 y2 y3 y4 y5 y6 y7 y8 y9 aA aC aD aE aG))∧(∀ y0 y1 y2 y3 y4 y5 y6 y7 y8 y9 aA aC aD,LeO (Z0.l0 k y0 y1 y2 y3 y4 y5 y6 y7 y8 y9 aA aC aD) (Z0.l0 (k+1) y0 y1 y2 y3 y4 y5 y6 y7 y8 y9 aA aC aD))∧(∀ y0 y1 y2 y3 y4 y5 y6 y7 y8,LeO (Z0.j4 k y0 y1 y2 y3 y4 y5 y6 y7 y8) (Z0.j4 (k+1) y0 y1 y2 y3 y4 y5 y6 y7 y8))∧(∀ y0 y1 y2 y3 y4 y5 y6 y7 y8 y9 aA aC,LeO (Z0.j2 k y0 y1 y2 y3 y4 y5 y6 y7 y8 y9 aA aC) (Z0.j2 (k+1) y0 y1 y2 y3 y4 y5 y6 y7 y8 y9 aA aC))∧(∀ y0 y1 y2 y3 y4 y5 y6 y7 y8 y9 aA aC,LeO (Z0.l1 k y0 y1 y2 y3 y4 y5 y6 y7 y8 y9 aA aC) (Z0.l1 (k+1) y0 y1 y2 y3 y4 y5 y6 y7 y8 y9 aA aC))
 | 0=>by refine ⟨?_,?_,?_,?_,?_⟩ <;> intros <;> intro r h <;> simp [Z0.j0,Z0.l0,Z0.j4,Z0.j2,Z0.l1] at h
 | k+1=>by
  obtain ⟨ih0,ih1,ih2,ih3,ih4⟩:=Z0.mono_l k;refine ⟨?_,?_,?_,?_,?_⟩
  ·intro y0 y1 y2 y3 y4 y5 y6 y7 y8 y9 aA aC aD aE aG
   unfold Z0.j0
   repeat' (with_reducible first|apply ih1|apply Z23.mono|exact lR _|refine lI ?_ ?_|refine lB ?_ fun _=>?_)
  ·intro y0 y1 y2 y3 y4 y5 y6 y7 y8 y9 aA aC aD
   unfold Z0.l0
   repeat' (with_reducible first|apply ih1|apply ih2|apply ih3|apply Z27.mono|exact lR _|refine lI ?_ ?_|refine lB ?_ fun _=>?_)
  ·intro y0 y1 y2 y3 y4 y5 y6 y7 y8
   unfold Z0.j4
   repeat' (with_reducible first|apply Z13.mono|exact lR _|refine lI ?_ ?_|refine lB ?_ fun _=>?_)
  ·intro y0 y1 y2 y3 y4 y5 y6 y7 y8 y9 aA aC
   unfold Z0.j2
   repeat' (with_reducible first|apply ih4|exact lR _|refine lI ?_ ?_)
  ·intro y0 y1 y2 y3 y4 y5 y6 y7 y8 y9 aA aC
   unfold Z0.l1
   repeat' (with_reducible first|apply ih2|apply ih4|exact lR _|refine lI ?_ ?_)
theorem Z0.mono:∀ a0 k,LeO (Z0.f k a0) (Z0.f (k+1) a0):=by
 intro a0 k;obtain ⟨ih0,ih1,ih2,ih3,ih4⟩:=Z0.mono_l k;unfold Z0.f
 repeat' (with_reducible first|apply ih0|apply Z23.mono|apply Z27.mono|apply Z38.mono|apply Z13.mono|apply Z64.mono|apply Z58.mono|apply Z22.mono|apply Z30.mono|apply Z60.mono|apply Z55.mono|apply Z59.mono|apply Z56.mono|apply Z62.mono|apply Z32.mono|apply Z28.mono|apply Z7.mono|apply Z57.mono|apply Z61.mono|exact lR _|refine lI ?_ ?_|refine lB ?_ fun _=>?_)
def Z0.T14:Bool × List (List Nat × List Nat):=(true,[([],[]),([0],[0]),([],[]),([2],[2]),([3],[3]),([1,4],[1,4]),([5,3],[5]),([6],[6]),([6],[6]),([7,8,6],[6,7,8]),([6,9],[6,9]),([10,6],[10]),([11],[11]),([11],[11]),([12,13,11],[11,12,13]),([11,14],[11,14]),([15,11],[15]),([16],[16]),([16],[16]),([17,18,16],[16,17,18]),([16,19],[16,19]),([20,16],[20]),([21],[21]),([22,21],[21,22]),([21],[21]),([24,21,21],[21,24]),([25,21],[21,25]),([23,26,21],[21,23,26]),([21,27],[21,27]),([28,25],[28]),([29],[29]),([29],[29]),([30,31,29],[29,30,31]),([29,32],[29,32]),([33,29],[33]),([34],[34]),([35,34],[34,35]),([34],[34]),([37,34],[34,37]),([36,38,34],[34,36,38]),([34,39],[34,39]),([40,34],[40]),([41],[41]),([42,41,41],[41,42]),([41],[41]),([44,43,41],[41,44]),([43,45,41],[41,43,45]),([41,46],[41,46]),([47,45],[47]),([48],[48]),([49,48,48],[48,49]),([48],[48]),([51,50,48],[48,51]),([50,52,48],[48,50,52]),([48,53],[48,53]),([54,52],[54]),([55],[55]),([56,55,55],[55,56]),([55],[55]),([58,57,55],[55,58]),([57,59,55],[55,57,59]),([55,60],[55,60])])
def Z0.B14:List Nat:=[0,1,0,4,12,31,63,127,127,511,1023,2047,4095,4095,16383,32767,65535,131071,131071,524287,1048575,2097151,4194303,8388607,4194303,20971519,54525951,134217727,268435455,536870911,1073741823,1073741823,4294967295,8589934591,17179869183,34359738367,68719476735,34359738367,171798691839,549755813887,1099511627775,2199023255551,4398046511103,8796093022207,4398046511103,35184372088831,70368744177663,140737488355327,281474976710655,562949953421311,1125899906842623,562949953421311,4503599627370495,9007199254740991,18014398509481983,36028797018963967,72057594037927935,144115188075855871,72057594037927935,576460752303423487,1152921504606846975,2305843009213693951]
theorem Z0.tab14:rtab .any (opsOf Tryd.f3 14)=Z0.T14:=by kernel_rfl
theorem Z0.bits14:waitsOk Z0.T14.2 Z0.B14=true:=by kernel_rfl
def Z0.T16:Bool × List (List Nat × List Nat):=(true,[([],[]),([0],[0]),([1],[1]),([],[]),([],[]),([3,4],[3,4]),([5],[5]),([2,6],[2,6])])
def Z0.B16:List Nat:=[0,1,3,0,0,24,56,127]
theorem Z0.tab16:rtab .any (opsOf Tryd.f3 16)=Z0.T16:=by kernel_rfl
theorem Z0.bits16:waitsOk Z0.T16.2 Z0.B16=true:=by kernel_rfl
def Z0.T30:Bool × List (List Nat × List Nat):=(true,[([],[]),([],[]),([0,1],[0,1]),([2],[2]),([],[]),([],[]),([4,5],[4,5]),([6],[6]),([3,7],[3,7])])
def Z0.B30:List Nat:=[0,0,3,7,0,0,48,112,255]
theorem Z0.tab30:rtab .any (opsOf Tryd.f3 30)=Z0.T30:=by kernel_rfl
theorem Z0.bits30:waitsOk Z0.T30.2 Z0.B30=true:=by kernel_rfl
theorem Z0.j0_no:∀ (k:Nat) x0 x1 x2 x3 x4 x5 x7 x8 x9 aA aC aD aE aG,Z0.j0 k x0 x1 x2 x3 x4 x5 true x7 x8 x9 aA aC aD aE aG≠some true:=by
 intro k;cases k <;> intros <;> simp [Z0.j0]
theorem Z0.j2_no:∀ (k:Nat) x0 x1 x2 x4 x5 x6 x7 x8 x9 aA aC,Z0.j2 k x0 x1 x2 true x4 x5 x6 x7 x8 x9 aA aC≠some true:=by
 intro k;cases k <;> intros <;> simp [Z0.j2]
set_option maxHeartbeats 60000000 in
set_option maxRecDepth 100000 in
theorem Z0.calls (k:Nat) (A0:Option Addr) (c0:Nat) (l0:List Int) (w:World) (hT:TabI w) (hr0:Kd.C (Kd.int .u8) w A0 l0.length l0) (hc0:l0.length≤c0) (h:Z0.f k l0=some true) :
  Calls Tryd.prog 3 #[.slice A0 l0.length c0] w fun e w'=>e=.returned (.bool true)∧Below w.heap.size w w':=by
 have uD:=Tryd.underlying27;have uE:=Tryd.underlying41;have jA:=aM hr0;have jB:=aM hc0;clear hr0 hc0;have HB:=aM (Below.refl w.heap.size w);have H:((Z78.f l0).bind fun kM=>(if kM=true then (some true) else ((Z59.f k l0).bind fun aA=>((Z38.f k aA.1 aA.2.1 aA.2.2.1 aA.2.2.2.1 aA.2.2.2.2.1 aA.2.2.2.2.2.1 aA.2.2.2.2.2.2.1 aA.2.2.2.2.2.2.2).bind fun aX=>((Z56.f k l0).bind fun eJ=>((Z13.f k eJ.1 eJ.2).bind fun cE=>((Z7.f k eJ.1 eJ.2).bind fun cG=>((Z60.f k l0).bind fun aI=>((Z23.f k aI).bind fun bK=>((Z55.f k l0).bind fun bD=>((Z27.f k bD).bind fun bH=>((Z30.f k bD).bind fun gV=>((Z62.f k l0).bind fun bW=>((Z32.f k l0).bind fun bX=>((Z28.f k aA.1 aA.2.1 aA.2.2.1 aA.2.2.2.1 aA.2.2.2.2.1 aA.2.2.2.2.2.1 aA.2.2.2.2.2.2.1 aA.2.2.2.2.2.2.2).bind fun eL=>(if (strOfNums aX).toList=(strOfNums eL).toList then (if (cE.2.2.2.2.2.2.2.2.2 != cG.2.2.2.2.2.2.2.2.2)=true then (Z0.j0 k aX aI bK bD bH.1 bH.2 true aA.1 aA.2.1 aA.2.2.1 aA.2.2.2.1 aA.2.2.2.2.1 aA.2.2.2.2.2.1 aA.2.2.2.2.2.2.1 aA.2.2.2.2.2.2.2) else (if cE.2.2.2.2.2.2.2.2.1=cG.2.2.2.2.2.2.2.2.1 then (if (!(cE.1 == cG.1) || (!(cE.2.1 == cG.2.1) || ((!(cE.2.2.1 == cG.2.2.1) || (!(cE.2.2.2.1 == cG.2.2.2.1) || (!(cE.2.2.2.2.1 == cG.2.2.2.2.1) || (!(cE.2.2.2.2.2.1 == cG.2.2.2.2.2.1))))) || (!(cE.2.2.2.2.2.2.1 == cG.2.2.2.2.2.2.1) || (!(cE.2.2.2.2.2.2.2.1 == cG.2.2.2.2.2.2.2.1))))))=true then (Z0.j0 k aX aI bK bD bH.1 bH.2 true aA.1 aA.2.1 aA.2.2.1 aA.2.2.2.1 aA.2.2.2.2.1 aA.2.2.2.2.2.1 aA.2.2.2.2.2.2.1 aA.2.2.2.2.2.2.2) else ((Z22.f k aI).bind fun eM=>(if (strOfNums bK).toList=(strOfNums eM).toList then (if bH.2=gV.2 then (if (bH.1.length:Int)=(gV.1.length:Int) then ((Z64.f k bW.1 bW.2.1 bW.2.2.1 bW.2.2.2.1 bW.2.2.2.2.1 bW.2.2.2.2.2.1 bW.2.2.2.2.2.2.1 bW.2.2.2.2.2.2.2).bind fun eN=>((Z57.f k bW.1 bW.2.1 bW.2.2.1 bW.2.2.2.1 bW.2.2.2.2.1 bW.2.2.2.2.2.1 bW.2.2.2.2.2.2.1 bW.2.2.2.2.2.2.2).bind fun eO=>(if eN.toList=eO.toList then ((Z58.f k bX.1 bX.2.1 bX.2.2.1 bX.2.2.2.1 bX.2.2.2.2.1 bX.2.2.2.2.2.1 bX.2.2.2.2.2.2.1 bX.2.2.2.2.2.2.2).bind fun eP=>((Z61.f k bX.1 bX.2.1 bX.2.2.1 bX.2.2.2.1 bX.2.2.2.2.1 bX.2.2.2.2.2.1 bX.2.2.2.2.2.2.1 bX.2.2.2.2.2.2.2).bind fun eQ=>(if eP.toList=eQ.toList then ((Z49.f aA.1 aA.2.1 aA.2.2.1 aA.2.2.2.1 aA.2.2.2.2.1 aA.2.2.2.2.2.1 aA.2.2.2.2.2.2.1 aA.2.2.2.2.2.2.2).bind fun hJ=>((Z63.f aA.1 aA.2.1 aA.2.2.1 aA.2.2.2.1 aA.2.2.2.2.1 aA.2.2.2.2.2.1 aA.2.2.2.2.2.2.1 aA.2.2.2.2.2.2.2).bind fun hO=>(Z0.j0 k aX aI bK bD bH.1 bH.2 (hJ != hO) aA.1 aA.2.1 aA.2.2.1 aA.2.2.2.1 aA.2.2.2.2.1 aA.2.2.2.2.2.1 aA.2.2.2.2.2.2.1 aA.2.2.2.2.2.2.2))) else (Z0.j0 k aX aI bK bD bH.1 bH.2 true aA.1 aA.2.1 aA.2.2.1 aA.2.2.2.1 aA.2.2.2.2.1 aA.2.2.2.2.2.1 aA.2.2.2.2.2.2.1 aA.2.2.2.2.2.2.2)))) else (Z0.j0 k aX aI bK bD bH.1 bH.2 true aA.1 aA.2.1 aA.2.2.1 aA.2.2.2.1 aA.2.2.2.2.1 aA.2.2.2.2.2.1 aA.2.2.2.2.2.2.1 aA.2.2.2.2.2.2.2)))) else (Z0.j0 k aX aI bK bD bH.1 bH.2 true aA.1 aA.2.1 aA.2.2.1 aA.2.2.2.1 aA.2.2.2.2.1 aA.2.2.2.2.2.1 aA.2.2.2.2.2.2.1 aA.2.2.2.2.2.2.2)) else (Z0.j0 k aX aI bK bD bH.1 bH.2 true aA.1 aA.2.1 aA.2.2.1 aA.2.2.2.1 aA.2.2.2.2.1 aA.2.2.2.2.2.1 aA.2.2.2.2.2.2.1 aA.2.2.2.2.2.2.2)) else (Z0.j0 k aX aI bK bD bH.1 bH.2 true aA.1 aA.2.1 aA.2.2.1 aA.2.2.2.1 aA.2.2.2.2.1 aA.2.2.2.2.2.1 aA.2.2.2.2.2.2.1 aA.2.2.2.2.2.2.2)))) else (Z0.j0 k aX aI bK bD bH.1 bH.2 true aA.1 aA.2.1 aA.2.2.1 aA.2.2.2.1 aA.2.2.2.2.1 aA.2.2.2.2.2.1 aA.2.2.2.2.2.2.1 aA.2.2.2.2.2.2.2))) else (Z0.j0 k aX aI bK bD bH.1 bH.2 true aA.1 aA.2.1 aA.2.2.1 aA.2.2.2.1 aA.2.2.2.2.1 aA.2.2.2.2.2.1 aA.2.2.2.2.2.2.1 aA.2.2.2.2.2.2.2)))))))))))))))))=some true:=h
 clear h;obtain ⟨kM,oU,H⟩:=hB H;have A2:=aM oU;clear oU
 by_cases c3:kM=true
 case pos =>
  subst c3;have H1:(some true)=some true:=by (rw [if_pos rfl] at H)
  clear H;have H:=H1;clear H1 H;go_enter Tryd.func3,Tryd.ntmps3
  go_wp2_with (((with_reducible refine gC (f:=5) rfl ?_);refine goesL_ (some 31) rfl rfl Tryd.func5 (by kernel_rfl) rfl #[.slice A0 l0.length c0] rfl xR ?_;(with_reducible refine (Z78.calls _ _ l0 true _ ?side1 ?side2 A2.out).mono ?_);(case side1=>exact cM jA.out);(case side2=>exact jB.out);rintro e w' ⟨rfl,⟨nd,rfl⟩⟩;refine ⟨_,rfl,?_⟩))
  go_ret
  exact ⟨xW,bl HB.out⟩
 replace c3:=Bool.eq_false_iff.mpr c3;subst c3;have H1:((Z59.f k l0).bind fun aA=>((Z38.f k aA.1 aA.2.1 aA.2.2.1 aA.2.2.2.1 aA.2.2.2.2.1 aA.2.2.2.2.2.1 aA.2.2.2.2.2.2.1 aA.2.2.2.2.2.2.2).bind fun aX=>((Z56.f k l0).bind fun eJ=>((Z13.f k eJ.1 eJ.2).bind fun cE=>((Z7.f k eJ.1 eJ.2).bind fun cG=>((Z60.f k l0).bind fun aI=>((Z23.f k aI).bind fun bK=>((Z55.f k l0).bind fun bD=>((Z27.f k bD).bind fun bH=>((Z30.f k bD).bind fun gV=>((Z62.f k l0).bind fun bW=>((Z32.f k l0).bind fun bX=>((Z28.f k aA.1 aA.2.1 aA.2.2.1 aA.2.2.2.1 aA.2.2.2.2.1 aA.2.2.2.2.2.1 aA.2.2.2.2.2.2.1 aA.2.2.2.2.2.2.2).bind fun eL=>(if (strOfNums aX).toList=(strOfNums eL).toList then (if (cE.2.2.2.2.2.2.2.2.2 != cG.2.2.2.2.2.2.2.2.2)=true then (Z0.j0 k aX aI bK bD bH.1 bH.2 true aA.1 aA.2.1 aA.2.2.1 aA.2.2.2.1 aA.2.2.2.2.1 aA.2.2.2.2.2.1 aA.2.2.2.2.2.2.1 aA.2.2.2.2.2.2.2) else (if cE.2.2.2.2.2.2.2.2.1=cG.2.2.2.2.2.2.2.2.1 then (if (!(cE.1 == cG.1) || (!(cE.2.1 == cG.2.1) || ((!(cE.2.2.1 == cG.2.2.1) || (!(cE.2.2.2.1 == cG.2.2.2.1) || (!(cE.2.2.2.2.1 == cG.2.2.2.2.1) || (!(cE.2.2.2.2.2.1 == cG.2.2.2.2.2.1))))) || (!(cE.2.2.2.2.2.2.1 == cG.2.2.2.2.2.2.1) || (!(cE.2.2.2.2.2.2.2.1 == cG.2.2.2.2.2.2.2.1))))))=true then (Z0.j0 k aX aI bK bD bH.1 bH.2 true aA.1 aA.2.1 aA.2.2.1 aA.2.2.2.1 aA.2.2.2.2.1 aA.2.2.2.2.2.1 aA.2.2.2.2.2.2.1 aA.2.2.2.2.2.2.2) else ((Z22.f k aI).bind fun eM=>(if (strOfNums bK).toList=(strOfNums eM).toList then (if bH.2=gV.2 then (if (bH.1.length:Int)=(gV.1.length:Int) then ((Z64.f k bW.1 bW.2.1 bW.2.2.1 bW.2.2.2.1 bW.2.2.2.2.1 bW.2.2.2.2.2.1 bW.2.2.2.2.2.2.1 bW.2.2.2.2.2.2.2).bind fun eN=>((Z57.f k bW.1 bW.2.1 bW.2.2.1 bW.2.2.2.1 bW.2.2.2.2.1 bW.2.2.2.2.2.1 bW.2.2.2.2.2.2.1 bW.2.2.2.2.2.2.2).bind fun eO=>(if eN.toList=eO.toList then ((Z58.f k bX.1 bX.2.1 bX.2.2.1 bX.2.2.2.1 bX.2.2.2.2.1 bX.2.2.2.2.2.1 bX.2.2.2.2.2.2.1 bX.2.2.2.2.2.2.2).bind fun eP=>((Z61.f k bX.1 bX.2.1 bX.2.2.1 bX.2.2.2.1 bX.2.2.2.2.1 bX.2.2.2.2.2.1 bX.2.2.2.2.2.2.1 bX.2.2.2.2.2.2.2).bind fun eQ=>(if eP.toList=eQ.toList then ((Z49.f aA.1 aA.2.1 aA.2.2.1 aA.2.2.2.1 aA.2.2.2.2.1 aA.2.2.2.2.2.1 aA.2.2.2.2.2.2.1 aA.2.2.2.2.2.2.2).bind fun hJ=>((Z63.f aA.1 aA.2.1 aA.2.2.1 aA.2.2.2.1 aA.2.2.2.2.1 aA.2.2.2.2.2.1 aA.2.2.2.2.2.2.1 aA.2.2.2.2.2.2.2).bind fun hO=>(Z0.j0 k aX aI bK bD bH.1 bH.2 (hJ != hO) aA.1 aA.2.1 aA.2.2.1 aA.2.2.2.1 aA.2.2.2.2.1 aA.2.2.2.2.2.1 aA.2.2.2.2.2.2.1 aA.2.2.2.2.2.2.2))) else (Z0.j0 k aX aI bK bD bH.1 bH.2 true aA.1 aA.2.1 aA.2.2.1 aA.2.2.2.1 aA.2.2.2.2.1 aA.2.2.2.2.2.1 aA.2.2.2.2.2.2.1 aA.2.2.2.2.2.2.2)))) else (Z0.j0 k aX aI bK bD bH.1 bH.2 true aA.1 aA.2.1 aA.2.2.1 aA.2.2.2.1 aA.2.2.2.2.1 aA.2.2.2.2.2.1 aA.2.2.2.2.2.2.1 aA.2.2.2.2.2.2.2)))) else (Z0.j0 k aX aI bK bD bH.1 bH.2 true aA.1 aA.2.1 aA.2.2.1 aA.2.2.2.1 aA.2.2.2.2.1 aA.2.2.2.2.2.1 aA.2.2.2.2.2.2.1 aA.2.2.2.2.2.2.2)) else (Z0.j0 k aX aI bK bD bH.1 bH.2 true aA.1 aA.2.1 aA.2.2.1 aA.2.2.2.1 aA.2.2.2.2.1 aA.2.2.2.2.2.1 aA.2.2.2.2.2.2.1 aA.2.2.2.2.2.2.2)) else (Z0.j0 k aX aI bK bD bH.1 bH.2 true aA.1 aA.2.1 aA.2.2.1 aA.2.2.2.1 aA.2.2.2.2.1 aA.2.2.2.2.2.1 aA.2.2.2.2.2.2.1 aA.2.2.2.2.2.2.2)))) else (Z0.j0 k aX aI bK bD bH.1 bH.2 true aA.1 aA.2.1 aA.2.2.1 aA.2.2.2.1 aA.2.2.2.2.1 aA.2.2.2.2.2.1 aA.2.2.2.2.2.2.1 aA.2.2.2.2.2.2.2))) else (Z0.j0 k aX aI bK bD bH.1 bH.2 true aA.1 aA.2.1 aA.2.2.1 aA.2.2.2.1 aA.2.2.2.2.1 aA.2.2.2.2.2.1 aA.2.2.2.2.2.2.1 aA.2.2.2.2.2.2.2)))))))))))))))=some true:=by (rw [if_neg (show ¬ (false=true) by decide)] at H;exact H)
 clear H;have H:=H1;clear H1;obtain ⟨⟨bM,bN,bO,bP,bQ,bT,bU,bV⟩,oV,H⟩:=hB H
 try dsimp only at H
 have A4:=aM oV;clear oV;obtain ⟨aX,oW,H⟩:=hB H;have A5:=aM oW;clear oW;obtain ⟨⟨eK,iN⟩,oX,H⟩:=hB H
 try dsimp only at H
 have A6:=aM oX;clear oX;obtain ⟨⟨cV,cW,cX,cY,dA,dB,dC,dD,hU,eV⟩,oY,H⟩:=hB H
 try dsimp only at H
 have A7:=aM oY;clear oY;obtain ⟨⟨dM,dN,dO,dP,dQ,dR,dS,dU,hX,eW⟩,lK,H⟩:=hB H
 try dsimp only at H
 have A8:=aM lK;clear lK;obtain ⟨aI,oZ,H⟩:=hB H;have A9:=aM oZ;clear oZ;obtain ⟨bK,mH,H⟩:=hB H;have pS:=aM mH;clear mH;obtain ⟨bD,mI,H⟩:=hB H;have pT:=aM mI;clear mI;obtain ⟨⟨cK,dV⟩,mJ,H⟩:=hB H
 try dsimp only at H
 have pV:=aM mJ;clear mJ;obtain ⟨⟨eX,hY⟩,mK,H⟩:=hB H
 try dsimp only at H
 have pW:=aM mK;clear mK;obtain ⟨⟨cL,cN,cO,cP,cQ,cR,cS,cT⟩,mL,H⟩:=hB H
 try dsimp only at H
 have pX:=aM mL;clear mL;obtain ⟨⟨dE,dF,dG,dH,dI,dJ,dK,dL⟩,mM,H⟩:=hB H
 try dsimp only at H
 have qA:=aM mM;clear mM;have lJ:=aM H;clear H;go_enter Tryd.func3,Tryd.ntmps3
 go_upto_region 14 with (first|((with_reducible refine gC (f:=5) rfl ?_);refine goesL_ (some 31) rfl rfl Tryd.func5 (by kernel_rfl) rfl #[.slice A0 l0.length c0] rfl xR ?_;(with_reducible refine (Z78.calls _ _ l0 false _ ?side1 ?side2 A2.out).mono ?_);(case side1=>exact cM jA.out);(case side2=>exact jB.out);rintro e w' ⟨rfl,⟨nd,rfl⟩⟩;refine ⟨_,rfl,?_⟩)|((with_reducible refine gC (f:=6) rfl ?_);refine goesL_ (some 33) rfl rfl Tryd.func6 (by kernel_rfl) rfl #[.slice A0 l0.length c0] rfl xR ?_;(with_reducible refine (Z59.calls k _ _ l0 bM bN bO bP bQ bT bU bV _ ?side1 ?side2 A4.out).mono ?_);(case side1=>exact cM jA.out);(case side2=>exact jB.out);rintro e uY ⟨rfl,hb⟩;refine ⟨_,rfl,?_⟩;replace HB:=rS HB hb;(try clear hb))|((with_reducible refine gD (N:=3) rfl ?_);(try (refine gate_guard (by rfl) ?_;dsimp only));refine box_event ?hg (N:=3) ?hd (cs:=#[.int .i64 0,.int .i64 0,.int .i64 0,.int .i64 0,.int .i64 0,.int .i64 0,.int .i64 0,.bool false]) (t:=27) ?hr ?_;(case hd=>rfl);(case hg=>rfl);(case hr=>(go_simp;done));intro cC hg uZ hbox hb;have aC:=aM (hbox);have qC:=gF hg HB;have kY:=gF hg HB;replace HB:=rS HB hb;clear hb hbox hg;have sL:=cA8 aC.out)|((with_reducible refine gC (f:=7) rfl ?_);refine goesL_ (some 35) rfl rfl Tryd.func7 (by kernel_rfl) rfl #[.agg #[bM,bN,bO,bP,bQ,bT,bU,bV]] rfl xR ?_;(with_reducible refine (Z38.calls k bM bN bO bP bQ bT bU bV aX _ A5.out).mono ?_);rintro e vA ⟨cU,rfl,ho0,hb⟩;refine ⟨_,rfl,?_⟩;have aK:=aM (Kd.R_lower ho0 (below_size (bl HB.out)));replace aC:=aM (bB (g:=cC) (o:=.cells #[bM,bN,bO,bP,bQ,bT,bU,bV] 27 (0,0)) (bm aC.out) hb);replace HB:=rS HB hb;(repeat first|clear hb|clear ho0))|((with_reducible refine gC (f:=8) rfl ?_);refine goesL_ (some 38) rfl rfl Tryd.func8 (by kernel_rfl) rfl #[.slice A0 l0.length c0] rfl xR ?_;(with_reducible refine (Z56.calls k _ _ l0 eK iN _ ?side1 ?side2 A6.out).mono ?_);(case side1=>exact cM (cB jA.out HB.out));(case side2=>exact jB.out);rintro e vB ⟨sM,rfl,ho0,hb⟩;refine ⟨_,rfl,?_⟩;have aN:=aM (Kd.R_lower (Kd.R_new' ho0 (Kd.R_lt (kr aK.out))) (below_size (bl HB.out)));replace aK:=aM (Kd.R_elder' (kr aK.out) (Kd.R_base ho0) hb);replace aC:=rB aC hb;replace HB:=rS HB hb;(repeat first|clear hb|clear ho0);obtain ⟨iY,iG,pC⟩:=Kd.R_slice aN.out;subst pC)|((with_reducible refine gC (f:=9) rfl ?_);refine goesL_ (some 44) rfl rfl Tryd.func9 (by kernel_rfl) rfl #[.slice iY eK.length iG,iN] rfl xR ?_;(with_reducible refine (Z13.calls k _ _ eK iN cV cW cX cY dA dB dC dD hU eV _ ?side1 ?side2 A7.out).mono ?_);(case side1=>exact cM ((Kd.R_reads' aN.out).2.2));(case side2=>exact (Kd.R_reads' aN.out).2.1);rintro e vC ⟨rfl,hb⟩;refine ⟨_,rfl,?_⟩;replace aK:=rK aK hb;replace aN:=rK aN hb;replace aC:=rB aC hb;replace HB:=rS HB hb;(try clear hb))|((with_reducible refine gD (N:=7) rfl ?_);(try (refine gate_guard (by rfl) ?_;dsimp only));refine box_event ?hg (N:=7) ?hd (cs:=#[.int .i64 0,.int .i64 0,.int .i64 0,.int .i64 0,.int .i64 0,.int .i64 0,.int .i64 0,.bool false]) (t:=27) ?hr ?_;(case hd=>rfl);(case hg=>rfl);(case hr=>(go_simp;done));intro bA hg vD hbox hb;have aD:=aM (hbox);have qD:=gF hg HB;have kZ:=gF hg HB;have fY:=nM hg aC;have gA:=nH hg aC;replace aK:=rK aK hb;replace aN:=rK aN hb;replace aC:=rB aC hb;replace HB:=rS HB hb;clear hb hbox hg;have sN:=gA.out;have sO:=fY.out;have sP:=cA8 aD.out)|((with_reducible refine gC (f:=10) rfl ?_);refine goesL_ (some 51) rfl rfl Tryd.func10 (by kernel_rfl) rfl #[.slice iY eK.length iG,iN] rfl xR ?_;(with_reducible refine (Z7.calls k _ _ eK iN dM dN dO dP dQ dR dS dU hX eW _ ?side1 ?side2 A8.out).mono ?_);(case side1=>refine (Kd.R_reads' (e:=5) (base:=w.heap.size) (ok:=fun k_=>(True∧some k_≠(cU:Value).ownBlock)) (n:=eK.length) (c:=iG) ?_).2.2;exact (kr (rT8 aN.out aD.out (.int .i64 cV) (.int .i64 cW) (.int .i64 cX) (.int .i64 cY) (.int .i64 dA) (.int .i64 dB) (.int .i64 dC) (.bool dD))));(case side2=>exact (Kd.R_reads' aN.out).2.1);rintro e vE ⟨rfl,hb⟩;refine ⟨_,rfl,?_⟩;replace aK:=aM (kB (kr (rT8 aK.out aD.out (.int .i64 cV) (.int .i64 cW) (.int .i64 cX) (.int .i64 cY) (.int .i64 dA) (.int .i64 dB) (.int .i64 dC) (.bool dD))) hb);replace aN:=aM (kB (kr (rT8 aN.out aD.out (.int .i64 cV) (.int .i64 cW) (.int .i64 cX) (.int .i64 cY) (.int .i64 dA) (.int .i64 dB) (.int .i64 dC) (.bool dD))) hb);replace aC:=aM (bB (fm aC.out) hb);replace aD:=aM (bB (g:=bA) (o:=.cells #[cV,cW,cX,cY,dA,dB,dC,dD] 27 (0,0)) (bm aD.out) hb);replace HB:=rS HB hb;(try clear hb))|((with_reducible refine gD (N:=10) rfl ?_);(try (refine gate_guard (by rfl) ?_;dsimp only));refine box_event ?hg (N:=10) ?hd (cs:=#[.int .i64 0,.int .i64 0,.int .i64 0,.int .i64 0,.int .i64 0,.int .i64 0,.int .i64 0,.bool false]) (t:=27) ?hr ?_;(case hd=>rfl);(case hg=>rfl);(case hr=>(go_simp;done));intro bJ hg vF hbox hb;have aE:=aM (hbox);have qE:=gF hg HB;have lA:=gF hg HB;have gB:=nM hg aC;have gG:=nH hg aC;have jM:=nM hg aD;have jN:=nH hg aD;replace aK:=rK aK hb;replace aN:=rK aN hb;replace aC:=rB aC hb;replace aD:=rB aD hb;replace HB:=rS HB hb;clear hb hbox hg;have sQ:=gG.out;have sR:=gB.out;have sT:=jN.out;have sU:=jM.out;have sV:=cA8 aE.out)|((with_reducible refine gC (f:=11) rfl ?_);refine goesL_ (some 56) rfl rfl Tryd.func11 (by kernel_rfl) rfl #[.slice A0 l0.length c0] rfl xR ?_;(with_reducible refine (Z60.calls k _ _ l0 aI _ ?side1 ?side2 A9.out).mono ?_);(case side1=>exact cB jA.out (bl HB.out));(case side2=>exact jB.out);rintro e vG ⟨sW,rfl,ho0,hb⟩;refine ⟨_,rfl,?_⟩;have aW:=aM (Kd.R_lower (Kd.R_newB (Kd.R_newB (Kd.R_newB ho0 (g:=cC) (o:=.cells #[bM,bN,bO,bP,bQ,bT,bU,bV] 27 (0,0)) (fm aC.out)) (g:=bA) (o:=.cells #[cV,cW,cX,cY,dA,dB,dC,dD] 27 (0,0)) (fm aD.out)) (g:=bJ) (o:=.cells #[dM,dN,dO,dP,dQ,dR,dS,dU] 27 (0,0)) (bm aE.out)) (below_size (bl HB.out)));replace aK:=aM (kB (kr (rT8 aK.out aE.out (.int .i64 dM) (.int .i64 dN) (.int .i64 dO) (.int .i64 dP) (.int .i64 dQ) (.int .i64 dR) (.int .i64 dS) (.bool dU))) hb);replace aN:=aM (kB (kr (rT8 aN.out aE.out (.int .i64 dM) (.int .i64 dN) (.int .i64 dO) (.int .i64 dP) (.int .i64 dQ) (.int .i64 dR) (.int .i64 dS) (.bool dU))) hb);replace aC:=aM (bB (fm aC.out) hb);replace aD:=aM (bB (fm aD.out) hb);replace aE:=aM (bB (g:=bJ) (o:=.cells #[dM,dN,dO,dP,dQ,dR,dS,dU] 27 (0,0)) (bm aE.out) hb);replace HB:=rS HB hb;(repeat first|clear hb|clear ho0);obtain ⟨eF,eG,pD⟩:=Kd.R_slice aW.out;subst pD)|((with_reducible refine gC (f:=12) rfl ?_);refine goesL_ (some 58) rfl rfl Tryd.func12 (by kernel_rfl) rfl #[.slice eF aI.length eG] rfl xR ?_;(with_reducible refine (Z23.calls k _ _ aI bK _ ?side1 ?side2 pS.out).mono ?_);(case side1=>exact cM ((Kd.R_reads' aW.out).2.2));(case side2=>exact (Kd.R_reads' aW.out).2.1);rintro e vH ⟨dY,rfl,ho0,hb⟩;refine ⟨_,rfl,?_⟩;have aV:=aM (Kd.R_lower (Kd.R_new' (Kd.R_new' ho0 (Kd.R_lt (kr aK.out))) (Kd.R_lt (kr aN.out))) (below_size (bl HB.out)));replace aK:=aM (Kd.R_elder' (kr aK.out) (Kd.R_base ho0) hb);replace aN:=aM (Kd.R_elder' (kr aN.out) (Kd.R_base ho0) hb);replace aW:=rK aW hb;replace aC:=rB aC hb;replace aD:=rB aD hb;replace aE:=rB aE hb;replace HB:=rS HB hb;(repeat first|clear hb|clear ho0))|((with_reducible refine gC (f:=13) rfl ?_);refine goesL_ (some 60) rfl rfl Tryd.func13 (by kernel_rfl) rfl #[.slice A0 l0.length c0] rfl xR ?_;(with_reducible refine (Z55.calls k _ _ l0 bD _ ?side1 ?side2 pT.out).mono ?_);(case side1=>exact cM (cB jA.out HB.out));(case side2=>exact jB.out);rintro e vI ⟨sX,rfl,ho0,hb⟩;refine ⟨_,rfl,?_⟩;have bG:=aM (Kd.R_lower (Kd.R_new' (Kd.R_new' (Kd.R_new' ho0 (Kd.R_lt (kr aK.out))) (Kd.R_lt (kr aN.out))) (Kd.R_lt (kr aV.out))) (below_size (bl HB.out)));replace aK:=aM (Kd.R_elder' (kr aK.out) (Kd.R_base ho0) hb);replace aN:=aM (Kd.R_elder' (kr aN.out) (Kd.R_base ho0) hb);replace aW:=rK aW hb;replace aV:=aM (Kd.R_elder' (kr aV.out) (Kd.R_base ho0) hb);replace aC:=rB aC hb;replace aD:=rB aD hb;replace aE:=rB aE hb;replace HB:=rS HB hb;(repeat first|clear hb|clear ho0);obtain ⟨dZ,dX,pE⟩:=Kd.R_slice bG.out;subst pE)|((with_reducible refine gC (f:=14) rfl ?_);refine goesL_ (some 63) rfl rfl Tryd.func14 (by kernel_rfl) rfl #[.slice dZ bD.length dX] rfl xR ?_;(with_reducible refine (Z27.calls k _ _ bD cK dV _ ?side1 ?side2 pV.out).mono ?_);(case side1=>exact cM ((Kd.R_reads' bG.out).2.2));(case side2=>exact (Kd.R_reads' bG.out).2.1);rintro e vJ ⟨iO,rfl,ho0,hb⟩;refine ⟨_,rfl,?_⟩;have bI:=aM (Kd.R_lower (Kd.R_newB (Kd.R_newB (Kd.R_newB (Kd.R_new' ho0 (Kd.R_lt (kr aW.out))) (g:=cC) (o:=.cells #[bM,bN,bO,bP,bQ,bT,bU,bV] 27 (0,0)) (bk aC.out)) (g:=bA) (o:=.cells #[cV,cW,cX,cY,dA,dB,dC,dD] 27 (0,0)) (bk aD.out)) (g:=bJ) (o:=.cells #[dM,dN,dO,dP,dQ,dR,dS,dU] 27 (0,0)) (bk aE.out)) (below_size (bl HB.out)));replace aK:=rK aK hb;replace aN:=rK aN hb;replace aW:=aM (Kd.R_elder' (kr aW.out) (Kd.R_base ho0) hb);replace aV:=rK aV hb;replace bG:=rK bG hb;replace aC:=rB aC hb;replace aD:=rB aD hb;replace aE:=rB aE hb;replace HB:=rS HB hb;(repeat first|clear hb|clear ho0))|((with_reducible refine gC (f:=15) rfl ?_);refine goesL_ (some 68) rfl rfl Tryd.func15 (by kernel_rfl) rfl #[.slice dZ bD.length dX] rfl xR ?_;(with_reducible refine (Z30.calls k _ _ bD eX hY _ ?side1 ?side2 pW.out).mono ?_);(case side1=>exact cM ((Kd.R_reads' bG.out).2.2));(case side2=>exact (Kd.R_reads' bG.out).2.1);rintro e vK ⟨kN,rfl,ho0,hb⟩;refine ⟨_,rfl,?_⟩;have bL:=aM (Kd.R_lower (Kd.R_newB (Kd.R_newB (Kd.R_newB (Kd.R_new' (Kd.R_new' ho0 (Kd.R_lt (kr aW.out))) (Kd.R_lt (kr bI.out))) (g:=cC) (o:=.cells #[bM,bN,bO,bP,bQ,bT,bU,bV] 27 (0,0)) (bk aC.out)) (g:=bA) (o:=.cells #[cV,cW,cX,cY,dA,dB,dC,dD] 27 (0,0)) (bk aD.out)) (g:=bJ) (o:=.cells #[dM,dN,dO,dP,dQ,dR,dS,dU] 27 (0,0)) (bk aE.out)) (below_size (bl HB.out)));replace aK:=rK aK hb;replace aN:=rK aN hb;replace aW:=aM (Kd.R_elder' (kr aW.out) (Kd.R_base ho0) hb);replace aV:=rK aV hb;replace bG:=rK bG hb;replace bI:=aM (Kd.R_elder' (kr bI.out) (Kd.R_base ho0) hb);replace aC:=rB aC hb;replace aD:=rB aD hb;replace aE:=rB aE hb;replace HB:=rS HB hb;(repeat first|clear hb|clear ho0))|((with_reducible refine gC (f:=16) rfl ?_);refine goesL_ (some 72) rfl rfl Tryd.func16 (by kernel_rfl) rfl #[.slice A0 l0.length c0] rfl xR ?_;(with_reducible refine (Z62.calls k _ _ l0 cL cN cO cP cQ cR cS cT _ ?side1 ?side2 pX.out).mono ?_);(case side1=>exact cM (cB jA.out HB.out));(case side2=>exact jB.out);rintro e vL ⟨rfl,hb⟩;refine ⟨_,rfl,?_⟩;replace aK:=rK aK hb;replace aN:=rK aN hb;replace aW:=rK aW hb;replace aV:=rK aV hb;replace bG:=rK bG hb;replace bI:=rK bI hb;replace bL:=rK bL hb;replace aC:=rB aC hb;replace aD:=rB aD hb;replace aE:=rB aE hb;replace HB:=rS HB hb;(try clear hb))|((with_reducible refine gC (f:=17) rfl ?_);refine goesL_ (some 74) rfl rfl Tryd.func17 (by kernel_rfl) rfl #[.slice A0 l0.length c0] rfl xR ?_;(with_reducible refine (Z32.calls k _ _ l0 dE dF dG dH dI dJ dK dL _ ?side1 ?side2 qA.out).mono ?_);(case side1=>exact cM (cB jA.out HB.out));(case side2=>exact jB.out);rintro e vM ⟨rfl,hb⟩;refine ⟨_,rfl,?_⟩;replace aK:=rK aK hb;replace aN:=rK aN hb;replace aW:=rK aW hb;replace aV:=rK aV hb;replace bG:=rK bG hb;replace bI:=rK bI hb;replace bL:=rK bL hb;replace aC:=rB aC hb;replace aD:=rB aD hb;replace aE:=rB aE hb;replace HB:=rS HB hb;(try clear hb))|((with_reducible refine gD (N:=20) rfl ?_);(try (refine gate_guard (by rfl) ?_;dsimp only));refine box_event ?hg (N:=20) ?hd (cs:=#[.int .i64 0,.int .i64 0,.int .i64 0,.int .i64 0,.int .i64 0,.int .i64 0,.int .i64 0,.bool false]) (t:=27) ?hr ?_;(case hd=>rfl);(case hg=>rfl);(case hr=>(go_simp;done));intro aJ hg vN hbox hb;have aG:=aM (hbox);have qF:=gF hg HB;have lC:=gF hg HB;have gH:=nM hg aC;have gJ:=nH hg aC;have jO:=nM hg aD;have jP:=nH hg aD;have jQ:=nM hg aE;have jR:=nH hg aE;replace aK:=rK aK hb;replace aN:=rK aN hb;replace aW:=aM (kB (Kd.R_elderB (kr aW.out) aJ (Nat.le_of_eq hg.symm)) hb);replace aV:=rK aV hb;replace bG:=rK bG hb;replace bI:=aM (kB (Kd.R_elderB (kr bI.out) aJ (Nat.le_of_eq hg.symm)) hb);replace bL:=aM (kB (Kd.R_elderB (kr bL.out) aJ (Nat.le_of_eq hg.symm)) hb);replace aC:=rB aC hb;replace aD:=rB aD hb;replace aE:=rB aE hb;replace HB:=rS HB hb;clear hb hbox hg)|((with_reducible refine gD (N:=21) rfl ?_);(try (refine gate_guard (by rfl) ?_;dsimp only));refine box_event ?hg (N:=21) ?hd (cs:=#[.int .i64 0,.int .i64 0,.int .i64 0,.int .i64 0,.int .i64 0,.int .i64 0,.int .i64 0,.bool false]) (t:=41) ?hr ?_;(case hd=>rfl);(case hg=>rfl);(case hr=>(go_simp;done));intro aQ hg vO hbox hb;have aH:=aM (hbox);have qG:=gF hg HB;have lD:=gF hg HB;have gK:=nM hg aC;have gM:=nH hg aC;have jS:=nM hg aD;have jT:=nH hg aD;have jU:=nM hg aE;have jV:=nH hg aE;have jW:=nM hg aG;have jX:=nH hg aG;replace aK:=rK aK hb;replace aN:=rK aN hb;replace aW:=rK aW hb;replace aV:=rK aV hb;replace bG:=rK bG hb;replace bI:=rK bI hb;replace bL:=rK bL hb;replace aC:=rB aC hb;replace aD:=rB aD hb;replace aE:=rB aE hb;replace aG:=rB aG hb;replace HB:=rS HB hb;clear hb hbox hg;have sY:=gJ.out;have tA:=gH.out;have tB:=jP.out;have tC:=jO.out;have tD:=jR.out;have tE:=jQ.out;have tF:=jW.out;have tG:=jX.out;have tH:=cA8 aG.out;have tI:=gM.out;have tJ:=gK.out;have tK:=jT.out;have tL:=jS.out;have tM:=jV.out;have tN:=jU.out;have tO:=cA8 aH.out))
 go_cut [136] (fun pF wc=>∃ (kq:Nat) (hZ:Bool),pF=.bool hZ∧Aside0 (Z0.j0 kq aX aI bK bD cK dV hZ bM bN bO bP bQ bT bU bV=some true)∧Aside0 (kq≤k)∧Aside0 (Kd.R (Kd.int .u8) 5 wc w.heap.size (fun k_=>some k_≠(dY:Value).ownBlock∧some k_≠((.slice dZ bD.length dX):Value).ownBlock) cU aX)∧Aside0 (Kd.R k27 27 wc w.heap.size (fun k_=>some k_≠(iO:Value).ownBlock∧k_≠cC∧k_≠bA∧k_≠bJ∧k_≠aJ) (.slice eF aI.length eG) aI)∧Aside0 (Kd.R (Kd.int .u8) 5 wc w.heap.size (fun k_=>some k_≠(cU:Value).ownBlock∧some k_≠((.slice dZ bD.length dX):Value).ownBlock) dY bK)∧Aside0 (Kd.R (Kd.int .u8) 5 wc w.heap.size (fun k_=>some k_≠(cU:Value).ownBlock∧some k_≠(dY:Value).ownBlock) (.slice dZ bD.length dX) bD)∧Aside0 (Kd.R k27 27 wc w.heap.size (fun k_=>some k_≠((.slice eF aI.length eG):Value).ownBlock∧k_≠cC∧k_≠bA∧k_≠bJ∧k_≠aJ) iO cK)∧Aside0 (wc.heap[cC]?=some (.cells #[bM,bN,bO,bP,bQ,bT,bU,bV] 27 (0,0)))∧Aside0 (wc.heap[bA]?=some (.cells #[cV,cW,cX,cY,dA,dB,dC,dD] 27 (0,0)))∧Aside0 (wc.heap[bJ]?=some (.cells #[dM,dN,dO,dP,dQ,dR,dS,dU] 27 (0,0)))∧Aside0 (wc.heap[aJ]?=some (.cells #[cL,cN,cO,cP,cQ,cR,cS,cT] 27 (0,0)))∧Aside0 (wc.heap[aQ]?=some (.cells #[dE,dF,dG,dH,dI,dJ,dK,dL] 41 (0,0)))∧Aside0 (Below w.heap.size w wc))
 case first =>
  have H:=lJ.out;clear lJ;obtain ⟨eL,mN,H⟩:=hB H;have qH:=aM mN;clear mN
  by_cases gU:(strOfNums aX).toList=(strOfNums eL).toList
  case neg =>
   rw [if_neg gU] at H
   have eR:((strOfNums aX).toList == (strOfNums eL).toList)=false:=beq_eq_false_iff_ne.mpr gU;have iA:((strOfNums aX).toList != (strOfNums eL).toList)=true:=bne_iff_ne.mpr gU
   (skip)
   exact absurd H (Z0.j0_no _ _ _ _ _ _ _ _ _ _ _ _ _ _ _)
  rw [if_pos gU] at H
  have eR:((strOfNums aX).toList == (strOfNums eL).toList)=true:=beq_iff_eq.mpr gU;have iA:((strOfNums aX).toList != (strOfNums eL).toList)=false:=bne_eq_false_iff_eq.mpr gU;clear gU
  (skip)
  by_cases gW:(eV != eW)=true
  case pos =>
   rw [if_pos gW] at H
   have nN:(eV != eW)=true:=gW
   (try (have nO:decide (eV=eW)=false:=by simpa using gW))
   (try (have nP:(eV == eW)=false:=by simpa using gW))
   (try (have tP:¬ (eV=eW):=by simpa using gW))
   clear gW;exact absurd H (Z0.j0_no _ _ _ _ _ _ _ _ _ _ _ _ _ _ _)
  rw [if_neg gW] at H
  have nN:(eV != eW)=false:=by simpa using gW
  (try (have nO:decide (eV=eW)=true:=by simpa using gW))
  (try (have nP:(eV == eW)=true:=by simpa using gW))
  clear gW
  by_cases jE:hU=hX
  case neg =>
   rw [if_neg jE] at H
   have nQ:(hU == hX)=false:=beq_eq_false_iff_ne.mpr jE;have nR:(hU != hX)=true:=bne_iff_ne.mpr jE;exact absurd H (Z0.j0_no _ _ _ _ _ _ _ _ _ _ _ _ _ _ _)
  rw [if_pos jE] at H
  have nQ:(hU == hX)=true:=beq_iff_eq.mpr jE;have nR:(hU != hX)=false:=bne_eq_false_iff_eq.mpr jE;clear jE
  by_cases kK:(!(cV == dM) || (!(cW == dN) || ((!(cX == dO) || (!(cY == dP) || (!(dA == dQ) || (!(dB == dR))))) || (!(dC == dS) || (!(dD == dU))))))=true
  case pos =>
   rw [if_pos kK] at H
   have nS:(!(cV == dM) || (!(cW == dN) || ((!(cX == dO) || (!(cY == dP) || (!(dA == dQ) || (!(dB == dR))))) || (!(dC == dS) || (!(dD == dU))))))=true:=kK;clear kK;exact absurd H (Z0.j0_no _ _ _ _ _ _ _ _ _ _ _ _ _ _ _)
  rw [if_neg kK] at H
  have nS:(!(cV == dM) || (!(cW == dN) || ((!(cX == dO) || (!(cY == dP) || (!(dA == dQ) || (!(dB == dR))))) || (!(dC == dS) || (!(dD == dU))))))=false:=by simpa using kK
  clear kK;obtain ⟨eM,mO,H⟩:=hB H;have qI:=aM mO;clear mO
  by_cases jF:(strOfNums bK).toList=(strOfNums eM).toList
  case neg =>
   rw [if_neg jF] at H
   have nT:((strOfNums bK).toList == (strOfNums eM).toList)=false:=beq_eq_false_iff_ne.mpr jF;have nV:((strOfNums bK).toList != (strOfNums eM).toList)=true:=bne_iff_ne.mpr jF;exact absurd H (Z0.j0_no _ _ _ _ _ _ _ _ _ _ _ _ _ _ _)
  rw [if_pos jF] at H
  have nT:((strOfNums bK).toList == (strOfNums eM).toList)=true:=beq_iff_eq.mpr jF;have nV:((strOfNums bK).toList != (strOfNums eM).toList)=false:=bne_eq_false_iff_eq.mpr jF;clear jF
  by_cases jG:dV=hY
  case neg =>
   rw [if_neg jG] at H
   have nZ:(dV == hY)=false:=beq_eq_false_iff_ne.mpr jG;have oA:(dV != hY)=true:=bne_iff_ne.mpr jG;exact absurd H (Z0.j0_no _ _ _ _ _ _ _ _ _ _ _ _ _ _ _)
  rw [if_pos jG] at H
  have nZ:(dV == hY)=true:=beq_iff_eq.mpr jG;have oA:(dV != hY)=false:=bne_eq_false_iff_eq.mpr jG;clear jG
  by_cases gX:(cK.length:Int)=(eX.length:Int)
  case neg =>
   rw [if_neg gX] at H
   have oB:((cK.length:Int) == (eX.length:Int))=false:=beq_eq_false_iff_ne.mpr gX;have oC:((cK.length:Int) != (eX.length:Int))=true:=bne_iff_ne.mpr gX;have oD:(cK.length == eX.length)=false:=by (simp at gX ⊢;omega)
   exact absurd H (Z0.j0_no _ _ _ _ _ _ _ _ _ _ _ _ _ _ _)
  rw [if_pos gX] at H
  have oB:((cK.length:Int) == (eX.length:Int))=true:=beq_iff_eq.mpr gX;have oC:((cK.length:Int) != (eX.length:Int))=false:=bne_eq_false_iff_eq.mpr gX;have oD:(cK.length == eX.length)=true:=by (simp at gX ⊢;omega)
  clear gX;obtain ⟨eN,mP,H⟩:=hB H;have qJ:=aM mP;clear mP;obtain ⟨eO,mQ,H⟩:=hB H;have qM:=aM mQ;clear mQ
  by_cases jH:eN.toList=eO.toList
  case neg =>
   rw [if_neg jH] at H
   have oE:(eN.toList == eO.toList)=false:=beq_eq_false_iff_ne.mpr jH;have oF:(eN.toList != eO.toList)=true:=bne_iff_ne.mpr jH;exact absurd H (Z0.j0_no _ _ _ _ _ _ _ _ _ _ _ _ _ _ _)
  rw [if_pos jH] at H
  have oE:(eN.toList == eO.toList)=true:=beq_iff_eq.mpr jH;have oF:(eN.toList != eO.toList)=false:=bne_eq_false_iff_eq.mpr jH;clear jH;obtain ⟨eP,mR,H⟩:=hB H;have qN:=aM mR;clear mR;obtain ⟨eQ,mS,H⟩:=hB H;have qO:=aM mS;clear mS
  by_cases jI:eP.toList=eQ.toList
  case neg =>
   rw [if_neg jI] at H
   have oG:(eP.toList == eQ.toList)=false:=beq_eq_false_iff_ne.mpr jI;have oH:(eP.toList != eQ.toList)=true:=bne_iff_ne.mpr jI;exact absurd H (Z0.j0_no _ _ _ _ _ _ _ _ _ _ _ _ _ _ _)
  rw [if_pos jI] at H
  have oG:(eP.toList == eQ.toList)=true:=beq_iff_eq.mpr jI;have oH:(eP.toList != eQ.toList)=false:=bne_eq_false_iff_eq.mpr jI;clear jI;obtain ⟨hJ,mT,H⟩:=hB H;have qP:=aM mT;clear mT;obtain ⟨hO,mU,H⟩:=hB H;have lK:=aM mU;clear mU;have H':=aM H;clear H
  try go_wp2
  refine nW (fun W=>Aside0 (Kd.R (Kd.int .u8) 5 W w.heap.size (fun k_=>some k_≠(.slice iY eK.length iG:Value).ownBlock∧some k_≠(dY:Value).ownBlock∧some k_≠(.slice dZ bD.length dX:Value).ownBlock) cU aX)∧Aside0 (Kd.R (Kd.int .u8) 5 W w.heap.size (fun k_=>some k_≠(cU:Value).ownBlock∧some k_≠(dY:Value).ownBlock∧some k_≠(.slice dZ bD.length dX:Value).ownBlock) (.slice iY eK.length iG) eK)∧Aside0 (Kd.R k27 27 W w.heap.size (fun k_=>some k_≠(iO:Value).ownBlock∧some k_≠(kN:Value).ownBlock∧k_≠cC∧k_≠bA∧k_≠bJ∧k_≠aJ) (.slice eF aI.length eG) aI)∧Aside0 (Kd.R (Kd.int .u8) 5 W w.heap.size (fun k_=>some k_≠(cU:Value).ownBlock∧some k_≠(.slice iY eK.length iG:Value).ownBlock∧some k_≠(.slice dZ bD.length dX:Value).ownBlock) dY bK)∧Aside0 (Kd.R (Kd.int .u8) 5 W w.heap.size (fun k_=>some k_≠(cU:Value).ownBlock∧some k_≠(.slice iY eK.length iG:Value).ownBlock∧some k_≠(dY:Value).ownBlock) (.slice dZ bD.length dX) bD)∧Aside0 (Kd.R k27 27 W w.heap.size (fun k_=>some k_≠(.slice eF aI.length eG:Value).ownBlock∧some k_≠(kN:Value).ownBlock∧k_≠cC∧k_≠bA∧k_≠bJ∧k_≠aJ) iO cK)∧Aside0 (Kd.R k27 27 W w.heap.size (fun k_=>some k_≠(.slice eF aI.length eG:Value).ownBlock∧some k_≠(iO:Value).ownBlock∧k_≠cC∧k_≠bA∧k_≠bJ∧k_≠aJ) kN eX)∧Aside0 (W.heap[cC]?=some (.cells #[bM,bN,bO,bP,bQ,bT,bU,bV] 27 (0,0)))∧Aside0 (W.heap[bA]?=some (.cells #[cV,cW,cX,cY,dA,dB,dC,dD] 27 (0,0)))∧Aside0 (W.heap[bJ]?=some (.cells #[dM,dN,dO,dP,dQ,dR,dS,dU] 27 (0,0)))∧Aside0 (W.heap[aJ]?=some (.cells #[cL,cN,cO,cP,cQ,cR,cS,cT] 27 (0,0)))∧Aside0 (W.heap[aQ]?=some (.cells #[dE,dF,dG,dH,dI,dJ,dK,dL] 41 (0,0)))∧Aside0 (Below w.heap.size w W)) ⟨⟨kr (Kd.R_mono (rF8 (g:=aQ) (rF8 (g:=aJ) (Kd.R_types (Kd.R_types aK.out aG.out (by decide)) aH.out (by decide)) (fun _ hk=>hk.1.2) (.int .i64 cL) (.int .i64 cN) (.int .i64 cO) (.int .i64 cP) (.int .i64 cQ) (.int .i64 cR) (.int .i64 cS) (.bool cT)) (fun _ hk=>hk.2) (.int .i64 dE) (.int .i64 dF) (.int .i64 dG) (.int .i64 dH) (.int .i64 dI) (.int .i64 dJ) (.int .i64 dK) (.bool dL)) (fun _ hk=>⟨hk.1.1.1.1.2,⟨hk.1.1.1.2,hk.1.1.2⟩⟩))⟩,⟨kr (Kd.R_mono (rF8 (g:=aQ) (rF8 (g:=aJ) (Kd.R_types (Kd.R_types aN.out aG.out (by decide)) aH.out (by decide)) (fun _ hk=>hk.1.2) (.int .i64 cL) (.int .i64 cN) (.int .i64 cO) (.int .i64 cP) (.int .i64 cQ) (.int .i64 cR) (.int .i64 cS) (.bool cT)) (fun _ hk=>hk.2) (.int .i64 dE) (.int .i64 dF) (.int .i64 dG) (.int .i64 dH) (.int .i64 dI) (.int .i64 dJ) (.int .i64 dK) (.bool dL)) (fun _ hk=>⟨hk.1.1.1.1.2,⟨hk.1.1.1.2,hk.1.1.2⟩⟩))⟩,⟨kr (Kd.R_mono (rF8 (g:=aQ) (rF8 (g:=aJ) (Kd.R_types (Kd.R_mono aW.out (fun k_ hk=>(⟨hk,hk.2⟩:_∧k_≠aJ))) aH.out (by decide)) (fun _ hk=>hk.1.2) (.int .i64 cL) (.int .i64 cN) (.int .i64 cO) (.int .i64 cP) (.int .i64 cQ) (.int .i64 cR) (.int .i64 cS) (.bool cT)) (fun _ hk=>hk.2) (.int .i64 dE) (.int .i64 dF) (.int .i64 dG) (.int .i64 dH) (.int .i64 dI) (.int .i64 dJ) (.int .i64 dK) (.bool dL)) (fun _ hk=>⟨hk.1.1.1.1.2,⟨hk.1.1.1.2,⟨hk.1.1.1.1.1.1.1.2,⟨hk.1.1.1.1.1.1.2,⟨hk.1.1.1.1.1.2,hk.1.1.2⟩⟩⟩⟩⟩))⟩,⟨kr (Kd.R_mono (rF8 (g:=aQ) (rF8 (g:=aJ) (Kd.R_types (Kd.R_types aV.out aG.out (by decide)) aH.out (by decide)) (fun _ hk=>hk.1.2) (.int .i64 cL) (.int .i64 cN) (.int .i64 cO) (.int .i64 cP) (.int .i64 cQ) (.int .i64 cR) (.int .i64 cS) (.bool cT)) (fun _ hk=>hk.2) (.int .i64 dE) (.int .i64 dF) (.int .i64 dG) (.int .i64 dH) (.int .i64 dI) (.int .i64 dJ) (.int .i64 dK) (.bool dL)) (fun _ hk=>⟨hk.1.1.1.1.2,⟨hk.1.1.1.2,hk.1.1.2⟩⟩))⟩,⟨kr (Kd.R_mono (rF8 (g:=aQ) (rF8 (g:=aJ) (Kd.R_types (Kd.R_types bG.out aG.out (by decide)) aH.out (by decide)) (fun _ hk=>hk.1.2) (.int .i64 cL) (.int .i64 cN) (.int .i64 cO) (.int .i64 cP) (.int .i64 cQ) (.int .i64 cR) (.int .i64 cS) (.bool cT)) (fun _ hk=>hk.2) (.int .i64 dE) (.int .i64 dF) (.int .i64 dG) (.int .i64 dH) (.int .i64 dI) (.int .i64 dJ) (.int .i64 dK) (.bool dL)) (fun _ hk=>⟨hk.1.1.1.1.2,⟨hk.1.1.1.2,hk.1.1.2⟩⟩))⟩,⟨kr (Kd.R_mono (rF8 (g:=aQ) (rF8 (g:=aJ) (Kd.R_types (Kd.R_mono bI.out (fun k_ hk=>(⟨hk,hk.2⟩:_∧k_≠aJ))) aH.out (by decide)) (fun _ hk=>hk.1.2) (.int .i64 cL) (.int .i64 cN) (.int .i64 cO) (.int .i64 cP) (.int .i64 cQ) (.int .i64 cR) (.int .i64 cS) (.bool cT)) (fun _ hk=>hk.2) (.int .i64 dE) (.int .i64 dF) (.int .i64 dG) (.int .i64 dH) (.int .i64 dI) (.int .i64 dJ) (.int .i64 dK) (.bool dL)) (fun _ hk=>⟨hk.1.1.1.1.1.1.1.2,⟨hk.1.1.1.2,⟨hk.1.1.1.1.1.1.2,⟨hk.1.1.1.1.1.2,⟨hk.1.1.1.1.2,hk.1.1.2⟩⟩⟩⟩⟩))⟩,⟨kr (Kd.R_mono (rF8 (g:=aQ) (rF8 (g:=aJ) (Kd.R_types (Kd.R_mono bL.out (fun k_ hk=>(⟨hk,hk.2⟩:_∧k_≠aJ))) aH.out (by decide)) (fun _ hk=>hk.1.2) (.int .i64 cL) (.int .i64 cN) (.int .i64 cO) (.int .i64 cP) (.int .i64 cQ) (.int .i64 cR) (.int .i64 cS) (.bool cT)) (fun _ hk=>hk.2) (.int .i64 dE) (.int .i64 dF) (.int .i64 dG) (.int .i64 dH) (.int .i64 dI) (.int .i64 dJ) (.int .i64 dK) (.bool dL)) (fun _ hk=>⟨hk.1.1.1.1.1.1.1.2,⟨hk.1.1.1.1.1.1.2,⟨hk.1.1.1.1.1.2,⟨hk.1.1.1.1.2,⟨hk.1.1.1.2,hk.1.1.2⟩⟩⟩⟩⟩))⟩,⟨fm aC.out⟩,⟨fm aD.out⟩,⟨fm aE.out⟩,⟨bm aG.out⟩,⟨bm aH.out⟩,⟨bl HB.out⟩⟩ ?_
  intro qQ nn_;replace aK:=nn_.1;replace aN:=nn_.2.1;replace aW:=nn_.2.2.1;replace aV:=nn_.2.2.2.1;replace bG:=nn_.2.2.2.2.1;replace bI:=nn_.2.2.2.2.2.1;replace bL:=nn_.2.2.2.2.2.2.1;replace aC:=nn_.2.2.2.2.2.2.2.1;replace aD:=nn_.2.2.2.2.2.2.2.2.1;replace aE:=nn_.2.2.2.2.2.2.2.2.2.1;replace aG:=nn_.2.2.2.2.2.2.2.2.2.2.1;replace aH:=nn_.2.2.2.2.2.2.2.2.2.2.2.1;replace HB:=nn_.2.2.2.2.2.2.2.2.2.2.2.2;clear nn_;replace aK:=aM (Kd.R_drew aK.out);replace aN:=aM (Kd.R_drew aN.out);replace aW:=aM (Kd.R_drew aW.out);replace aV:=aM (Kd.R_drew aV.out);replace bG:=aM (Kd.R_drew bG.out);replace bI:=aM (Kd.R_drew bI.out);replace bL:=aM (Kd.R_drew bL.out);replace aC:=aM (blk_drew aC.out);replace aD:=aM (blk_drew aD.out);replace aE:=aM (blk_drew aE.out);replace aG:=aM (blk_drew aG.out);replace aH:=aM (blk_drew aH.out);replace HB:=aM (below_drew1 HB.out);refine start_ (n:=62) (S:=fun w'=>(convert 22 9 cU).run Tryd.prog w'=.ok (.string (strOfNums aX)) w'∧(convert 22 9 (clipV dY)).run Tryd.prog w'=.ok (.string (strOfNums bK)) w'∧cT8 w' cC (.int .i64 bM) (.int .i64 bN) (.int .i64 bO) (.int .i64 bP) (.int .i64 bQ) (.int .i64 bT) (.int .i64 bU) (.bool bV) (cT8 w' bA (.int .i64 cV) (.int .i64 cW) (.int .i64 cX) (.int .i64 cY) (.int .i64 dA) (.int .i64 dB) (.int .i64 dC) (.bool dD) (cT8 w' bJ (.int .i64 dM) (.int .i64 dN) (.int .i64 dO) (.int .i64 dP) (.int .i64 dQ) (.int .i64 dR) (.int .i64 dS) (.bool dU) (cT8 w' aJ (.int .i64 cL) (.int .i64 cN) (.int .i64 cO) (.int .i64 cP) (.int .i64 cQ) (.int .i64 cR) (.int .i64 cS) (.bool cT) (cS8 w' aQ (.int .i64 dE) (.int .i64 dF) (.int .i64 dG) (.int .i64 dH) (.int .i64 dI) (.int .i64 dJ) (.int .i64 dK) (.bool dL)))))) (ds:=[]) (dn 62 0) (by kernel_rfl) rfl rfl ⟨(own_string (P:=Tryd.prog) Tryd.underlying22 Tryd.underlying5 Tryd.underlying9 (Kd.own_of_R aK.out)),(clip_string aV.out),cI aC.out 0,cI aC.out 1,cI aC.out 2,cI aC.out 3,cI aC.out 4,cI aC.out 5,cI aC.out 6,cI aC.out 7,cI aD.out 0,cI aD.out 1,cI aD.out 2,cI aD.out 3,cI aD.out 4,cI aD.out 5,cI aD.out 6,cI aD.out 7,cI aE.out 0,cI aE.out 1,cI aE.out 2,cI aE.out 3,cI aE.out 4,cI aE.out 5,cI aE.out 6,cI aE.out 7,cI aG.out 0,cI aG.out 1,cI aG.out 2,cI aG.out 3,cI aG.out 4,cI aG.out 5,cI aG.out 6,cI aG.out 7,cI aH.out 0,cI aH.out 1,cI aH.out 2,cI aH.out 3,cI aH.out 4,cI aH.out 5,cI aH.out 6,cI aH.out 7⟩ (fun hHeld=>?_);refine with_tabW Z0.tab14 Z0.bits14 (fun HT_ HW_=>?_)
  generalize qQ.drew=vP at aK aN aW aV bG bI bL aC aD aE aG aH HB hHeld ⊢
  refine nY (N:=some 75) HT_ ?_;refine tY (N:=some 76) HT_ HW_ hHeld ?_;refine tY (N:=some 77) HT_ HW_ hHeld ?_;refine oN (N:=some 78) HT_ (fun K hK=>?_)
  refine goes_ Tryd.func18 (by kernel_rfl) rfl #[.agg #[bM,bN,bO,bP,bQ,bT,bU,bV]] (by rfl) rfl rfl xR ?_
  with_reducible refine (Z28.calls k bM bN bO bP bQ bT bU bV eL _ qH.out).mono ?_
  rintro e vQ ⟨tQ,rfl,ho0,hb⟩;refine ⟨_,rfl,?_⟩;have dW:=aM (Kd.R_lower (Kd.R_new' (Kd.R_new' (Kd.R_new' (Kd.R_new' ho0 (Kd.R_lt (kr aK.out))) (Kd.R_lt (kr aN.out))) (Kd.R_lt (kr aV.out))) (Kd.R_lt (kr bG.out))) (below_size (bl HB.out)));replace aK:=aM (Kd.R_elder' (kr aK.out) (Kd.R_base ho0) hb);replace aN:=aM (Kd.R_elder' (kr aN.out) (Kd.R_base ho0) hb);replace aW:=rK aW hb;replace aV:=aM (Kd.R_elder' (kr aV.out) (Kd.R_base ho0) hb);replace bG:=aM (Kd.R_elder' (kr bG.out) (Kd.R_base ho0) hb);replace bI:=rK bI hb;replace bL:=rK bL hb;replace aC:=rB aC hb;replace aD:=rB aD hb;replace aE:=rB aE hb;replace aG:=rB aG hb;replace aH:=rB aH hb;replace HB:=rS HB hb
  (try clear hb)
  (try clear ho0)
  refine hK.out _ _ ⟨(own_string (P:=Tryd.prog) Tryd.underlying22 Tryd.underlying5 Tryd.underlying9 (Kd.own_of_R aK.out)),(clip_string aV.out),cI aC.out 0,cI aC.out 1,cI aC.out 2,cI aC.out 3,cI aC.out 4,cI aC.out 5,cI aC.out 6,cI aC.out 7,cI aD.out 0,cI aD.out 1,cI aD.out 2,cI aD.out 3,cI aD.out 4,cI aD.out 5,cI aD.out 6,cI aD.out 7,cI aE.out 0,cI aE.out 1,cI aE.out 2,cI aE.out 3,cI aE.out 4,cI aE.out 5,cI aE.out 6,cI aE.out 7,cI aG.out 0,cI aG.out 1,cI aG.out 2,cI aG.out 3,cI aG.out 4,cI aG.out 5,cI aG.out 6,cI aG.out 7,cI aH.out 0,cI aH.out 1,cI aH.out 2,cI aH.out 3,cI aH.out 4,cI aH.out 5,cI aH.out 6,cI aH.out 7⟩ (fun hHeld=>?_)
  clear hK K;refine norm_ (a':=?_) ?_ ?_;rotate_left
  ·show Act.put _ (some 78) _=_
   simp only [Act.put,sA,sZ,sS,i64_w,i32_w]
   rfl
  refine oN (N:=some 79) HT_ (fun K hK=>?_)
  have hcv85:=own_string (P:=Tryd.prog) Tryd.underlying22 Tryd.underlying5 Tryd.underlying9 (Kd.own_of_R dW.out);refine value_ (w1:=?_) (v:=?_) (by rfl) rfl ?_ ?_
  rotate_left 2
  ·go_simp
   constructor
   ·rfl
   ·rfl
  clear hcv85;refine hK.out _ _ ⟨(own_string (P:=Tryd.prog) Tryd.underlying22 Tryd.underlying5 Tryd.underlying9 (Kd.own_of_R aK.out)),(clip_string aV.out),cI aC.out 0,cI aC.out 1,cI aC.out 2,cI aC.out 3,cI aC.out 4,cI aC.out 5,cI aC.out 6,cI aC.out 7,cI aD.out 0,cI aD.out 1,cI aD.out 2,cI aD.out 3,cI aD.out 4,cI aD.out 5,cI aD.out 6,cI aD.out 7,cI aE.out 0,cI aE.out 1,cI aE.out 2,cI aE.out 3,cI aE.out 4,cI aE.out 5,cI aE.out 6,cI aE.out 7,cI aG.out 0,cI aG.out 1,cI aG.out 2,cI aG.out 3,cI aG.out 4,cI aG.out 5,cI aG.out 6,cI aG.out 7,cI aH.out 0,cI aH.out 1,cI aH.out 2,cI aH.out 3,cI aH.out 4,cI aH.out 5,cI aH.out 6,cI aH.out 7⟩ (fun hHeld=>?_)
  clear hK K;refine norm_ (a':=?_) ?_ ?_;rotate_left
  ·show Act.put _ (some 79) _=_
   simp only [Act.put,sA,sZ,sS,i64_w,i32_w]
   rfl
  refine nY (N:=some 80) HT_ ?_;refine nY (N:=some 81) HT_ ?_;refine nY (N:=some 82) HT_ ?_;refine nY (N:=some 83) HT_ ?_;refine nY (N:=some 84) HT_ ?_;refine nY (N:=some 85) HT_ ?_;refine nY (N:=some 86) HT_ ?_;refine nY (N:=some 87) HT_ ?_;refine nY (N:=some 88) HT_ ?_;refine nY (N:=some 89) HT_ ?_;refine nY (N:=some 90) HT_ ?_;refine nY (N:=some 91) HT_ ?_;refine tY (N:=some 92) HT_ HW_ hHeld ?_;refine tY (N:=some 93) HT_ HW_ hHeld ?_;refine nY (N:=some 94) HT_ ?_;refine nY (N:=some 95) HT_ ?_;refine nY (N:=some 96) HT_ ?_;refine nY (N:=some 97) HT_ ?_;refine tY (N:=some 98) HT_ HW_ hHeld ?_;refine nY (N:=some 99) HT_ ?_;refine oN (N:=some 100) HT_ (fun K hK=>?_)
  refine goes_ Tryd.func19 (by kernel_rfl) rfl #[.slice eF aI.length eG] (by rfl) rfl rfl xR ?_
  with_reducible refine (Z22.calls k _ _ aI eM _ ?side1 ?side2 qI.out).mono ?_
  (case side1=>exact cM ((Kd.R_reads' aW.out).2.2))
  (case side2=>exact (Kd.R_reads' aW.out).2.1)
  rintro e vR ⟨tR,rfl,ho0,hb⟩;refine ⟨_,rfl,?_⟩;have eB:=aM (Kd.R_lower (Kd.R_new' (Kd.R_new' (Kd.R_new' (Kd.R_new' (Kd.R_new' ho0 (Kd.R_lt (kr aK.out))) (Kd.R_lt (kr aN.out))) (Kd.R_lt (kr aV.out))) (Kd.R_lt (kr bG.out))) (Kd.R_lt (kr dW.out))) (below_size (bl HB.out)));replace aK:=aM (Kd.R_elder' (kr aK.out) (Kd.R_base ho0) hb);replace aN:=aM (Kd.R_elder' (kr aN.out) (Kd.R_base ho0) hb);replace aW:=rK aW hb;replace aV:=aM (Kd.R_elder' (kr aV.out) (Kd.R_base ho0) hb);replace bG:=aM (Kd.R_elder' (kr bG.out) (Kd.R_base ho0) hb);replace bI:=rK bI hb;replace bL:=rK bL hb;replace dW:=aM (Kd.R_elder' (kr dW.out) (Kd.R_base ho0) hb);replace aC:=rB aC hb;replace aD:=rB aD hb;replace aE:=rB aE hb;replace aG:=rB aG hb;replace aH:=rB aH hb;replace HB:=rS HB hb
  (try clear hb)
  (try clear ho0)
  obtain ⟨uF,uG,mV⟩:=Kd.R_slice bI.out
  (subst mV)
  obtain ⟨uH,uI,mW⟩:=Kd.R_slice bL.out
  (subst mW)
  refine hK.out _ _ ⟨(own_string (P:=Tryd.prog) Tryd.underlying22 Tryd.underlying5 Tryd.underlying9 (Kd.own_of_R aK.out)),(clip_string aV.out),cI aC.out 0,cI aC.out 1,cI aC.out 2,cI aC.out 3,cI aC.out 4,cI aC.out 5,cI aC.out 6,cI aC.out 7,cI aD.out 0,cI aD.out 1,cI aD.out 2,cI aD.out 3,cI aD.out 4,cI aD.out 5,cI aD.out 6,cI aD.out 7,cI aE.out 0,cI aE.out 1,cI aE.out 2,cI aE.out 3,cI aE.out 4,cI aE.out 5,cI aE.out 6,cI aE.out 7,cI aG.out 0,cI aG.out 1,cI aG.out 2,cI aG.out 3,cI aG.out 4,cI aG.out 5,cI aG.out 6,cI aG.out 7,cI aH.out 0,cI aH.out 1,cI aH.out 2,cI aH.out 3,cI aH.out 4,cI aH.out 5,cI aH.out 6,cI aH.out 7⟩ (fun hHeld=>?_)
  clear hK K;refine norm_ (a':=?_) ?_ ?_;rotate_left
  ·show Act.put _ (some 100) _=_
   simp only [Act.put,sA,sZ,sS,i64_w,i32_w]
   rfl
  refine oN (N:=some 101) HT_ (fun K hK=>?_)
  have hcv88:=own_string (P:=Tryd.prog) Tryd.underlying22 Tryd.underlying5 Tryd.underlying9 (Kd.own_of_R eB.out);refine value_ (w1:=?_) (v:=?_) (by rfl) rfl ?_ ?_
  rotate_left 2
  ·go_simp
   constructor
   ·rfl
   ·rfl
  clear hcv88;refine hK.out _ _ ⟨(own_string (P:=Tryd.prog) Tryd.underlying22 Tryd.underlying5 Tryd.underlying9 (Kd.own_of_R aK.out)),(clip_string aV.out),cI aC.out 0,cI aC.out 1,cI aC.out 2,cI aC.out 3,cI aC.out 4,cI aC.out 5,cI aC.out 6,cI aC.out 7,cI aD.out 0,cI aD.out 1,cI aD.out 2,cI aD.out 3,cI aD.out 4,cI aD.out 5,cI aD.out 6,cI aD.out 7,cI aE.out 0,cI aE.out 1,cI aE.out 2,cI aE.out 3,cI aE.out 4,cI aE.out 5,cI aE.out 6,cI aE.out 7,cI aG.out 0,cI aG.out 1,cI aG.out 2,cI aG.out 3,cI aG.out 4,cI aG.out 5,cI aG.out 6,cI aG.out 7,cI aH.out 0,cI aH.out 1,cI aH.out 2,cI aH.out 3,cI aH.out 4,cI aH.out 5,cI aH.out 6,cI aH.out 7⟩ (fun hHeld=>?_)
  clear hK K;refine norm_ (a':=?_) ?_ ?_;rotate_left
  ·show Act.put _ (some 101) _=_
   simp only [Act.put,sA,sZ,sS,i64_w,i32_w]
   rfl
  refine nY (N:=some 102) HT_ ?_;refine nY (N:=some 103) HT_ ?_;refine nY (N:=some 104) HT_ ?_;refine nY (N:=some 105) HT_ ?_;refine nY (N:=some 106) HT_ ?_;refine nY (N:=some 107) HT_ ?_;refine nY (N:=some 108) HT_ ?_;refine nY (N:=some 109) HT_ ?_;refine nY (N:=some 110) HT_ ?_;refine nY (N:=some 111) HT_ ?_;refine nY (N:=some 112) HT_ ?_;refine nY (N:=some 113) HT_ ?_;refine nY (N:=some 114) HT_ ?_;refine nY (N:=some 115) HT_ ?_;refine nY (N:=some 116) HT_ ?_;refine tY (N:=some 117) HT_ HW_ hHeld ?_;refine aZ 44 119 (bv 62 26388279066623) HT_ HW_ hHeld ?_;refine one_ (i:=43) (N:=some 118) (bv 62 35184372088831) rfl rfl (one_of HT_.out (by kernel_rfl)) (by decide) (fun K hK=>?_)
  refine goes_ Tryd.func20 (by kernel_rfl) rfl #[.agg #[cL,cN,cO,cP,cQ,cR,cS,cT]] (by rfl) rfl rfl xR ?_
  with_reducible refine (Z64.calls k cL cN cO cP cQ cR cS cT eN _ (tabI_below hT ?hbt_) qJ.out).mono ?_
  case hbt_=>repeat ((with_reducible exact HB.out))
  rintro e vS ⟨rfl,hb⟩;refine ⟨_,rfl,?_⟩;replace aK:=rK aK hb;replace aN:=rK aN hb;replace aW:=rK aW hb;replace aV:=rK aV hb;replace bG:=rK bG hb;replace bI:=rK bI hb;replace bL:=rK bL hb;replace dW:=rK dW hb;replace eB:=rK eB hb;replace aC:=rB aC hb;replace aD:=rB aD hb;replace aE:=rB aE hb;replace aG:=rB aG hb;replace aH:=rB aH hb;replace HB:=rS HB hb
  (try clear hb)
  refine hK.out _ _ ⟨(own_string (P:=Tryd.prog) Tryd.underlying22 Tryd.underlying5 Tryd.underlying9 (Kd.own_of_R aK.out)),(clip_string aV.out),cI aC.out 0,cI aC.out 1,cI aC.out 2,cI aC.out 3,cI aC.out 4,cI aC.out 5,cI aC.out 6,cI aC.out 7,cI aD.out 0,cI aD.out 1,cI aD.out 2,cI aD.out 3,cI aD.out 4,cI aD.out 5,cI aD.out 6,cI aD.out 7,cI aE.out 0,cI aE.out 1,cI aE.out 2,cI aE.out 3,cI aE.out 4,cI aE.out 5,cI aE.out 6,cI aE.out 7,cI aG.out 0,cI aG.out 1,cI aG.out 2,cI aG.out 3,cI aG.out 4,cI aG.out 5,cI aG.out 6,cI aG.out 7,cI aH.out 0,cI aH.out 1,cI aH.out 2,cI aH.out 3,cI aH.out 4,cI aH.out 5,cI aH.out 6,cI aH.out 7⟩ (fun hHeld=>?_)
  clear hK K;refine norm_ (a':=?_) ?_ ?_;rotate_left
  ·show Act.put _ (some 118) _=_
   simp only [Act.put,sA,sZ,sS,i64_w,i32_w]
   rfl
  refine one_ (i:=45) (N:=some 120) (bv 62 70368744177663) rfl rfl (one_of HT_.out (by kernel_rfl)) (by decide) (fun K hK=>?_)
  refine goes_ Tryd.func21 (by kernel_rfl) rfl #[.agg #[cL,cN,cO,cP,cQ,cR,cS,cT]] (by rfl) rfl rfl xR ?_
  with_reducible refine (Z57.calls k cL cN cO cP cQ cR cS cT eO _ qM.out).mono ?_
  rintro e vT ⟨rfl,hb⟩;refine ⟨_,rfl,?_⟩;replace aK:=rK aK hb;replace aN:=rK aN hb;replace aW:=rK aW hb;replace aV:=rK aV hb;replace bG:=rK bG hb;replace bI:=rK bI hb;replace bL:=rK bL hb;replace dW:=rK dW hb;replace eB:=rK eB hb;replace aC:=rB aC hb;replace aD:=rB aD hb;replace aE:=rB aE hb;replace aG:=rB aG hb;replace aH:=rB aH hb;replace HB:=rS HB hb
  (try clear hb)
  refine hK.out _ _ ⟨(own_string (P:=Tryd.prog) Tryd.underlying22 Tryd.underlying5 Tryd.underlying9 (Kd.own_of_R aK.out)),(clip_string aV.out),cI aC.out 0,cI aC.out 1,cI aC.out 2,cI aC.out 3,cI aC.out 4,cI aC.out 5,cI aC.out 6,cI aC.out 7,cI aD.out 0,cI aD.out 1,cI aD.out 2,cI aD.out 3,cI aD.out 4,cI aD.out 5,cI aD.out 6,cI aD.out 7,cI aE.out 0,cI aE.out 1,cI aE.out 2,cI aE.out 3,cI aE.out 4,cI aE.out 5,cI aE.out 6,cI aE.out 7,cI aG.out 0,cI aG.out 1,cI aG.out 2,cI aG.out 3,cI aG.out 4,cI aG.out 5,cI aG.out 6,cI aG.out 7,cI aH.out 0,cI aH.out 1,cI aH.out 2,cI aH.out 3,cI aH.out 4,cI aH.out 5,cI aH.out 6,cI aH.out 7⟩ (fun hHeld=>?_)
  clear hK K;refine norm_ (a':=?_) ?_ ?_;rotate_left
  ·show Act.put _ (some 120) _=_
   simp only [Act.put,sA,sZ,sS,i64_w,i32_w]
   rfl
  refine pZ 46 121 (bv 62 140737488355327) HT_ ?_;refine pZ 47 122 (bv 62 281474976710655) HT_ ?_;refine pZ 48 123 (bv 62 562949953421311) HT_ ?_;refine aZ 49 124 (bv 62 1125899906842623) HT_ HW_ hHeld ?_;refine aZ 51 126 (bv 62 3377699720527871) HT_ HW_ hHeld ?_;refine one_ (i:=50) (N:=some 125) (bv 62 4503599627370495) rfl rfl (one_of HT_.out (by kernel_rfl)) (by decide) (fun K hK=>?_)
  refine goes_ Tryd.func22 (by kernel_rfl) rfl #[.agg #[dE,dF,dG,dH,dI,dJ,dK,dL]] (by rfl) rfl rfl xR ?_
  with_reducible refine (Z58.calls k dE dF dG dH dI dJ dK dL eP _ (tabI_below hT ?hbt_) qN.out).mono ?_
  case hbt_=>repeat ((with_reducible exact HB.out))
  rintro e vU ⟨rfl,hb⟩;refine ⟨_,rfl,?_⟩;replace aK:=rK aK hb;replace aN:=rK aN hb;replace aW:=rK aW hb;replace aV:=rK aV hb;replace bG:=rK bG hb;replace bI:=rK bI hb;replace bL:=rK bL hb;replace dW:=rK dW hb;replace eB:=rK eB hb;replace aC:=rB aC hb;replace aD:=rB aD hb;replace aE:=rB aE hb;replace aG:=rB aG hb;replace aH:=rB aH hb;replace HB:=rS HB hb
  (try clear hb)
  refine hK.out _ _ ⟨(own_string (P:=Tryd.prog) Tryd.underlying22 Tryd.underlying5 Tryd.underlying9 (Kd.own_of_R aK.out)),(clip_string aV.out),cI aC.out 0,cI aC.out 1,cI aC.out 2,cI aC.out 3,cI aC.out 4,cI aC.out 5,cI aC.out 6,cI aC.out 7,cI aD.out 0,cI aD.out 1,cI aD.out 2,cI aD.out 3,cI aD.out 4,cI aD.out 5,cI aD.out 6,cI aD.out 7,cI aE.out 0,cI aE.out 1,cI aE.out 2,cI aE.out 3,cI aE.out 4,cI aE.out 5,cI aE.out 6,cI aE.out 7,cI aG.out 0,cI aG.out 1,cI aG.out 2,cI aG.out 3,cI aG.out 4,cI aG.out 5,cI aG.out 6,cI aG.out 7,cI aH.out 0,cI aH.out 1,cI aH.out 2,cI aH.out 3,cI aH.out 4,cI aH.out 5,cI aH.out 6,cI aH.out 7⟩ (fun hHeld=>?_)
  clear hK K;refine norm_ (a':=?_) ?_ ?_;rotate_left
  ·show Act.put _ (some 125) _=_
   simp only [Act.put,sA,sZ,sS,i64_w,i32_w]
   rfl
  refine one_ (i:=52) (N:=some 127) (bv 62 9007199254740991) rfl rfl (one_of HT_.out (by kernel_rfl)) (by decide) (fun K hK=>?_)
  refine goes_ Tryd.func23 (by kernel_rfl) rfl #[.agg #[dE,dF,dG,dH,dI,dJ,dK,dL]] (by rfl) rfl rfl xR ?_
  with_reducible refine (Z61.calls k dE dF dG dH dI dJ dK dL eQ _ qO.out).mono ?_
  rintro e vV ⟨rfl,hb⟩;refine ⟨_,rfl,?_⟩;replace aK:=rK aK hb;replace aN:=rK aN hb;replace aW:=rK aW hb;replace aV:=rK aV hb;replace bG:=rK bG hb;replace bI:=rK bI hb;replace bL:=rK bL hb;replace dW:=rK dW hb;replace eB:=rK eB hb;replace aC:=rB aC hb;replace aD:=rB aD hb;replace aE:=rB aE hb;replace aG:=rB aG hb;replace aH:=rB aH hb;replace HB:=rS HB hb
  (try clear hb)
  refine hK.out _ _ ⟨(own_string (P:=Tryd.prog) Tryd.underlying22 Tryd.underlying5 Tryd.underlying9 (Kd.own_of_R aK.out)),(clip_string aV.out),cI aC.out 0,cI aC.out 1,cI aC.out 2,cI aC.out 3,cI aC.out 4,cI aC.out 5,cI aC.out 6,cI aC.out 7,cI aD.out 0,cI aD.out 1,cI aD.out 2,cI aD.out 3,cI aD.out 4,cI aD.out 5,cI aD.out 6,cI aD.out 7,cI aE.out 0,cI aE.out 1,cI aE.out 2,cI aE.out 3,cI aE.out 4,cI aE.out 5,cI aE.out 6,cI aE.out 7,cI aG.out 0,cI aG.out 1,cI aG.out 2,cI aG.out 3,cI aG.out 4,cI aG.out 5,cI aG.out 6,cI aG.out 7,cI aH.out 0,cI aH.out 1,cI aH.out 2,cI aH.out 3,cI aH.out 4,cI aH.out 5,cI aH.out 6,cI aH.out 7⟩ (fun hHeld=>?_)
  clear hK K;refine norm_ (a':=?_) ?_ ?_;rotate_left
  ·show Act.put _ (some 127) _=_
   simp only [Act.put,sA,sZ,sS,i64_w,i32_w]
   rfl
  refine pZ 53 128 (bv 62 18014398509481983) HT_ ?_;refine pZ 54 129 (bv 62 36028797018963967) HT_ ?_;refine pZ 55 130 (bv 62 72057594037927935) HT_ ?_;refine aZ 56 131 (bv 62 144115188075855871) HT_ HW_ hHeld ?_;refine aZ 58 133 (bv 62 432345564227567615) HT_ HW_ hHeld ?_;refine one_ (i:=57) (N:=some 132) (bv 62 576460752303423487) rfl rfl (one_of HT_.out (by kernel_rfl)) (by decide) (fun K hK=>?_)
  refine goes_ Tryd.func24 (by kernel_rfl) rfl #[.agg #[bM,bN,bO,bP,bQ,bT,bU,bV]] (by rfl) rfl rfl xR ?_
  with_reducible refine (Z49.calls bM bN bO bP bQ bT bU bV hJ _ qP.out).mono ?_
  rintro e vW ⟨rfl,hb⟩;refine ⟨_,rfl,?_⟩;replace aK:=rK aK hb;replace aN:=rK aN hb;replace aW:=rK aW hb;replace aV:=rK aV hb;replace bG:=rK bG hb;replace bI:=rK bI hb;replace bL:=rK bL hb;replace dW:=rK dW hb;replace eB:=rK eB hb;replace aC:=rB aC hb;replace aD:=rB aD hb;replace aE:=rB aE hb;replace aG:=rB aG hb;replace aH:=rB aH hb;replace HB:=rS HB hb
  (try clear hb)
  refine hK.out _ _ ⟨(own_string (P:=Tryd.prog) Tryd.underlying22 Tryd.underlying5 Tryd.underlying9 (Kd.own_of_R aK.out)),(clip_string aV.out),cI aC.out 0,cI aC.out 1,cI aC.out 2,cI aC.out 3,cI aC.out 4,cI aC.out 5,cI aC.out 6,cI aC.out 7,cI aD.out 0,cI aD.out 1,cI aD.out 2,cI aD.out 3,cI aD.out 4,cI aD.out 5,cI aD.out 6,cI aD.out 7,cI aE.out 0,cI aE.out 1,cI aE.out 2,cI aE.out 3,cI aE.out 4,cI aE.out 5,cI aE.out 6,cI aE.out 7,cI aG.out 0,cI aG.out 1,cI aG.out 2,cI aG.out 3,cI aG.out 4,cI aG.out 5,cI aG.out 6,cI aG.out 7,cI aH.out 0,cI aH.out 1,cI aH.out 2,cI aH.out 3,cI aH.out 4,cI aH.out 5,cI aH.out 6,cI aH.out 7⟩ (fun hHeld=>?_)
  clear hK K;refine norm_ (a':=?_) ?_ ?_;rotate_left
  ·show Act.put _ (some 132) _=_
   simp only [Act.put,sA,sZ,sS,i64_w,i32_w]
   rfl
  refine one_ (i:=59) (N:=some 134) (bv 62 1152921504606846975) rfl rfl (one_of HT_.out (by kernel_rfl)) (by decide) (fun K hK=>?_)
  refine goes_ Tryd.func25 (by kernel_rfl) rfl #[.agg #[bM,bN,bO,bP,bQ,bT,bU,bV]] (by rfl) rfl rfl xR ?_
  with_reducible refine (Z63.calls bM bN bO bP bQ bT bU bV hO _ lK.out).mono ?_
  rintro e vX ⟨rfl,hb⟩;refine ⟨_,rfl,?_⟩;replace aK:=rK aK hb;replace aN:=rK aN hb;replace aW:=rK aW hb;replace aV:=rK aV hb;replace bG:=rK bG hb;replace bI:=rK bI hb;replace bL:=rK bL hb;replace dW:=rK dW hb;replace eB:=rK eB hb;replace aC:=rB aC hb;replace aD:=rB aD hb;replace aE:=rB aE hb;replace aG:=rB aG hb;replace aH:=rB aH hb;replace HB:=rS HB hb
  (try clear hb)
  refine hK.out _ _ ⟨(own_string (P:=Tryd.prog) Tryd.underlying22 Tryd.underlying5 Tryd.underlying9 (Kd.own_of_R aK.out)),(clip_string aV.out),cI aC.out 0,cI aC.out 1,cI aC.out 2,cI aC.out 3,cI aC.out 4,cI aC.out 5,cI aC.out 6,cI aC.out 7,cI aD.out 0,cI aD.out 1,cI aD.out 2,cI aD.out 3,cI aD.out 4,cI aD.out 5,cI aD.out 6,cI aD.out 7,cI aE.out 0,cI aE.out 1,cI aE.out 2,cI aE.out 3,cI aE.out 4,cI aE.out 5,cI aE.out 6,cI aE.out 7,cI aG.out 0,cI aG.out 1,cI aG.out 2,cI aG.out 3,cI aG.out 4,cI aG.out 5,cI aG.out 6,cI aG.out 7,cI aH.out 0,cI aH.out 1,cI aH.out 2,cI aH.out 3,cI aH.out 4,cI aH.out 5,cI aH.out 6,cI aH.out 7⟩ (fun hHeld=>?_)
  clear hK K;refine norm_ (a':=?_) ?_ ?_;rotate_left
  ·show Act.put _ (some 134) _=_
   simp only [Act.put,sA,sZ,sS,i64_w,i32_w]
   rfl
  refine pZ 60 135 (bv 62 2305843009213693951) HT_ ?_;refine pZ 61 136 (bv 62 4611686018427387903) HT_ ?_;refine done_ (done_of HT_.out (by kernel_rfl)) ?_
  try go_wp2
  go_meet
  case rel=>exact ⟨_,((hJ != hO)),xE,H',⟨by omega⟩,⟨kr (Kd.R_mono aK.out (fun _ hk=>by (simp only [and_assoc] at hk;exact ⟨hk.2.1,hk.2.2.1⟩)))⟩,⟨kr (Kd.R_mono aW.out (fun _ hk=>by exact ⟨hk.1,⟨hk.2.2.1,⟨hk.2.2.2.1,⟨hk.2.2.2.2.1,hk.2.2.2.2.2⟩⟩⟩⟩))⟩,⟨kr (Kd.R_mono aV.out (fun _ hk=>by (simp only [and_assoc] at hk;exact ⟨hk.1,hk.2.2.1⟩)))⟩,⟨kr (Kd.R_mono bG.out (fun _ hk=>by (simp only [and_assoc] at hk;exact ⟨hk.1,hk.2.2.1⟩)))⟩,⟨kr (Kd.R_mono bI.out (fun _ hk=>by exact ⟨hk.1,⟨hk.2.2.1,⟨hk.2.2.2.1,⟨hk.2.2.2.2.1,hk.2.2.2.2.2⟩⟩⟩⟩))⟩,⟨bk aC.out⟩,⟨bk aD.out⟩,⟨bk aE.out⟩,⟨bk aG.out⟩,⟨bk aH.out⟩,⟨bl HB.out⟩⟩
 case rest =>
  clear lJ
  repeat first|clear c1|clear hcv1|clear p2|clear c5|clear hcv16|clear lL|clear gU|clear eR|clear iA|clear hcv163|clear hcv165
  obtain ⟨kq,hZ,rfl,HA,HJ15,bY,cA,cH,eC,eA,aC,aD,aE,aG,aH,HB⟩:=hcut;cases kq with
  | zero=>exact absurd HA.out (by simp [Z0.j0])
  | succ iH =>
   have H:=HA.out;clear HA;simp only [Z0.j0] at H
   by_cases gY:hZ=true
   case pos =>
    subst gY;have H1:(some false)=some true:=by (rw [if_pos rfl] at H;exact H)
    clear H;have H:=H1;clear H1;exact absurd (Option.some.inj H) (by decide)
   replace gY:=Bool.eq_false_iff.mpr gY;subst gY;have H1:((Z23.f iH cK).bind fun eD=>(if 0≤dV then (if dV≤(bD.length:Int) then (if (strOfNums eD).toList=(strOfNums (bD.take (dV:Int).toNat)).toList then (Z0.l0 iH aX aI bK true 0 bM bN bO bP bQ bT bU bV) else (some false)) else (none)) else (none)))=some true:=by (rw [if_neg (show ¬ (false=true) by decide)] at H;exact H)
   clear H;have H:=H1;clear H1;obtain ⟨eD,lM,H⟩:=hB H;have mX:=aM lM;clear lM
   by_cases gP:0≤dV
   case neg =>
    rw [if_neg gP] at H
    exact absurd H (by simp)
   rw [if_pos gP] at H
   have iP:=eq_true gP;have iQ:decide (0≤dV)=true:=decide_eq_true gP;clear gP
   by_cases gQ:dV≤(bD.length:Int)
   case neg =>
    rw [if_neg gQ] at H
    exact absurd H (by simp)
   rw [if_pos gQ] at H
   have iR:=eq_true gQ;have iS:decide (dV≤(bD.length:Int))=true:=decide_eq_true gQ;clear gQ;obtain ⟨eY,gZ⟩:∃ y_:List Int,y_=(bD.take (dV:Int).toNat):=⟨_,rfl⟩;replace H:(if (strOfNums eD).toList=(strOfNums eY).toList then (Z0.l0 iH aX aI bK true 0 bM bN bO bP bQ bT bU bV) else (some false))=some true:=by (rw [gZ];with_reducible exact H)
   have lE:=aM gZ;clear gZ
   by_cases fA:(strOfNums eD).toList=(strOfNums eY).toList
   case neg =>
    rw [if_neg fA] at H
    have hD:((strOfNums eD).toList == (strOfNums eY).toList)=false:=beq_eq_false_iff_ne.mpr fA;have hH:((strOfNums eD).toList != (strOfNums eY).toList)=true:=bne_iff_ne.mpr fA;exact absurd (Option.some.inj H) (by decide)
   rw [if_pos fA] at H
   have hD:((strOfNums eD).toList == (strOfNums eY).toList)=true:=beq_iff_eq.mpr fA;have hH:((strOfNums eD).toList != (strOfNums eY).toList)=false:=bne_eq_false_iff_eq.mpr fA;clear fA;have H':=aM H;clear H;obtain ⟨iB,iC,oI⟩:=Kd.R_slice eA.out;subst oI
   try go_wp2
   replace bY:=aM (Kd.R_drew bY.out);replace cA:=aM (Kd.R_drew cA.out);replace cH:=aM (Kd.R_drew cH.out);replace eC:=aM (Kd.R_drew eC.out);replace eA:=aM (Kd.R_drew eA.out);replace aC:=aM (blk_drew aC.out);replace aD:=aM (blk_drew aD.out);replace aE:=aM (blk_drew aE.out);replace aG:=aM (blk_drew aG.out);replace aH:=aM (blk_drew aH.out);replace HB:=aM (below_drew1 HB.out);have fB:(dV:Int)≤((bD.length:Int):Int):=dT;obtain ⟨i0174,hi0174,_,hsz174,_⟩:=info_parts info5;have hroom174:bD.length≤dX:=(Kd.R_reads' eC.out).2.1;have hC174:Kd.C (Kd.int .u8) _ dZ bD.length bD:=(Kd.R_reads' eC.out).2.2;have hcut174:=cut_to (P:=Tryd.prog) 22 5 .i64 Tryd.underlying22 hi0174 dZ bD.length dX dV (dT) fB hroom174;have hr174:=Kd.C_take (m:=(dV:Int).toNat) hC174 (by omega)
   have kO:eY.length=(dV:Int).toNat:=(by rw [lE.out,List.length_take];omega)
   rw [← lE.out] at hr174
   rw [← kO] at hcut174
   have eH:=aM hr174;have qS:=aM (show eY.length≤dX from by omega)
   clear hr174 hC174 hroom174 hi0174 hsz174;have KY174:=aM kO;clear kO;have KL174:=aM (show (dV:Int).toNat≤bD.length from by omega)
   replace fB:=eq_true fB;refine start_ (n:=8) (S:=fun w'=>True) (ds:=[]) (dn 8 0) (by kernel_rfl) rfl rfl trivial (fun hHeld=>?_);refine with_tabW Z0.tab16 Z0.bits16 (fun HT_ HW_=>?_)
   generalize wc.drew=uJ at bY cA cH eC eA aC aD aE aG aH HB eH hHeld ⊢
   refine nY (N:=some 137) HT_ ?_;refine pZ 3 140 (bv 8 9) HT_ ?_;refine pZ 4 141 (bv 8 25) HT_ ?_;refine pZ 5 142 (bv 8 57) HT_ ?_;refine join_ (σ:=Value) 1 (bv 8 127) (fun s_=>[(138,clipV s_),(139,.string (strOfNums eD)),(143,.string (strOfNums eY))]) (fun s_ w'=>(Kd.R (Kd.int .u8) 5 w' w.heap.size (fun k_=>some k_≠(dY:Value).ownBlock∧some k_≠(.slice dZ bD.length dX:Value).ownBlock∧some k_≠(cU:Value).ownBlock) s_ eD)∧(Kd.R k27 27 w' w.heap.size (fun k_=>some k_≠(.slice iB cK.length iC:Value).ownBlock∧k_≠cC∧k_≠bA∧k_≠bJ∧k_≠aJ) (.slice eF aI.length eG) aI)∧(Kd.R (Kd.int .u8) 5 w' w.heap.size (fun k_=>some k_≠(s_:Value).ownBlock∧some k_≠(.slice dZ bD.length dX:Value).ownBlock∧some k_≠(cU:Value).ownBlock) dY bK)∧(Kd.R (Kd.int .u8) 5 w' w.heap.size (fun k_=>some k_≠(s_:Value).ownBlock∧some k_≠(dY:Value).ownBlock∧some k_≠(cU:Value).ownBlock) (.slice dZ bD.length dX) bD)∧(Kd.R k27 27 w' w.heap.size (fun k_=>some k_≠(.slice eF aI.length eG:Value).ownBlock∧k_≠cC∧k_≠bA∧k_≠bJ∧k_≠aJ) (.slice iB cK.length iC) cK)∧(Kd.R (Kd.int .u8) 5 w' w.heap.size (fun k_=>some k_≠(s_:Value).ownBlock∧some k_≠(dY:Value).ownBlock∧some k_≠(.slice dZ bD.length dX:Value).ownBlock) cU aX)∧(w'.heap[cC]?=some (.cells #[bM,bN,bO,bP,bQ,bT,bU,bV] 27 (0,0)))∧(w'.heap[bA]?=some (.cells #[cV,cW,cX,cY,dA,dB,dC,dD] 27 (0,0)))∧(w'.heap[bJ]?=some (.cells #[dM,dN,dO,dP,dQ,dR,dS,dU] 27 (0,0)))∧(w'.heap[aJ]?=some (.cells #[cL,cN,cO,cP,cQ,cR,cS,cT] 27 (0,0)))∧(w'.heap[aQ]?=some (.cells #[dE,dF,dG,dH,dI,dJ,dK,dL] 41 (0,0)))∧(Below w.heap.size w w')) ?_ ?_
   rotate_left
   ·intro hCont
    refine two_ (i:=1) (j:=6) (Ni:=some 138) (Nj:=some 143) (bv 8 59) (bv 8 121) rfl rfl rfl rfl (two_of HT_.out (by kernel_rfl)) (by decide) (by decide) (fun K hK=>?_) (fun K hK=>?_)
    ·skip
     refine goes_ Tryd.func12 (by kernel_rfl) rfl #[.slice iB cK.length iC] (by rfl) rfl rfl xR ?_
     with_reducible refine (Z23.calls iH _ _ cK eD _ ?side1 ?side2 mX.out).mono ?_
     (case side1=>exact cM ((Kd.R_reads' eA.out).2.2))
     (case side2=>exact (Kd.R_reads' eA.out).2.1)
     rintro e uK ⟨eZ,rfl,ho0,hb⟩;refine ⟨_,rfl,?_⟩;have eS:=aM (Kd.R_lower (Kd.R_new' (Kd.R_new' (Kd.R_new' ho0 (Kd.R_lt (kr bY.out))) (Kd.R_lt (kr cH.out))) (Kd.R_lt (kr eC.out))) (below_size (bl HB.out)));replace bY:=aM (Kd.R_elder' (kr bY.out) (Kd.R_base ho0) hb);replace cA:=rK cA hb;replace cH:=aM (Kd.R_elder' (kr cH.out) (Kd.R_base ho0) hb);replace eC:=aM (Kd.R_elder' (kr eC.out) (Kd.R_base ho0) hb);replace eA:=rK eA hb;replace aC:=rB aC hb;replace aD:=rB aD hb;replace aE:=rB aE hb;replace aG:=rB aG hb;replace aH:=rB aH hb;replace eH:=aM (cB (by repeat ((with_reducible exact eH.out))) hb)
     replace HB:=rS HB hb
     (try clear hb)
     (try clear ho0)
     refine hK.out _ _ trivial (fun hHeld=>?_)
     clear hK K;refine norm_ (a':=?_) ?_ ?_;rotate_left
     ·show Act.put _ (some 138) _=_
      simp only [Act.put,sA,sZ,sS,i64_w,i32_w]
      rfl
     refine two_ (i:=2) (j:=6) (Ni:=some 139) (Nj:=some 143) (bv 8 63) (bv 8 123) rfl rfl rfl rfl (two_of HT_.out (by kernel_rfl)) (by decide) (by decide) (fun K hK=>?_) (fun K hK=>?_)
     ·skip
      have hcv176:=clip_string eS.out;refine value_ (w1:=?_) (v:=?_) (by rfl) rfl ?_ ?_
      rotate_left 2
      ·go_simp
       constructor
       ·rfl
       ·rfl
      clear hcv176;refine hK.out _ _ trivial (fun hHeld=>?_)
      clear hK K;refine norm_ (a':=?_) ?_ ?_;rotate_left
      ·show Act.put _ (some 139) _=_
       simp only [Act.put,sA,sZ,sS,i64_w,i32_w]
       rfl
      refine one_ (i:=6) (N:=some 143) (bv 8 127) rfl rfl (one_of HT_.out (by kernel_rfl)) (by decide) (fun K hK=>?_)
      have hcv177:=Kd.C_string (P:=Tryd.prog) (A:=dZ) (c:=dX) Tryd.underlying22 Tryd.underlying5 Tryd.underlying9 eH.out;refine value_ (w1:=?_) (v:=?_) (by rfl) rfl ?_ ?_
      rotate_left 2
      ·go_simp
       constructor
       ·rfl
       ·rfl
      clear hcv177;refine hK.out _ _ trivial (fun hHeld=>?_)
      clear hK K;refine norm_ (a':=?_) ?_ ?_;rotate_left
      ·show Act.put _ (some 143) _=_
       simp only [Act.put,sA,sZ,sS,i64_w,i32_w]
       rfl
      exact norm_ (by simp only [putAll,Act.put,sA,sZ,sS]) (hCont (eZ) _ ⟨(kr (Kd.R_mono eS.out (fun _ hk=>⟨hk.1.2,⟨hk.2,hk.1.1.2⟩⟩))),(kr cA.out),(kr (Kd.R_mono cH.out (fun _ hk=>⟨hk.2,⟨hk.1.2,hk.1.1⟩⟩))),(kr (Kd.R_mono eC.out (fun _ hk=>⟨hk.2,⟨hk.1.2,hk.1.1⟩⟩))),(kr eA.out),(kr (Kd.R_mono bY.out (fun _ hk=>⟨hk.2,⟨hk.1.1,hk.1.2⟩⟩))),(bk aC.out),(bk aD.out),(bk aE.out),(bk aG.out),(bk aH.out),(bl HB.out)⟩)
     ·skip
      have hcv176:=Kd.C_string (P:=Tryd.prog) (A:=dZ) (c:=dX) Tryd.underlying22 Tryd.underlying5 Tryd.underlying9 eH.out;refine value_ (w1:=?_) (v:=?_) (by rfl) rfl ?_ ?_
      rotate_left 2
      ·go_simp
       constructor
       ·rfl
       ·rfl
      clear hcv176;refine hK.out _ _ trivial (fun hHeld=>?_)
      clear hK K;refine norm_ (a':=?_) ?_ ?_;rotate_left
      ·show Act.put _ (some 143) _=_
       simp only [Act.put,sA,sZ,sS,i64_w,i32_w]
       rfl
      refine one_ (i:=2) (N:=some 139) (bv 8 127) rfl rfl (one_of HT_.out (by kernel_rfl)) (by decide) (fun K hK=>?_)
      have hcv177:=clip_string eS.out;refine value_ (w1:=?_) (v:=?_) (by rfl) rfl ?_ ?_
      rotate_left 2
      ·go_simp
       constructor
       ·rfl
       ·rfl
      clear hcv177;refine hK.out _ _ trivial (fun hHeld=>?_)
      clear hK K;refine norm_ (a':=?_) ?_ ?_;rotate_left
      ·show Act.put _ (some 139) _=_
       simp only [Act.put,sA,sZ,sS,i64_w,i32_w]
       rfl
      exact norm_ (by simp only [putAll,Act.put,sA,sZ,sS]) (hCont (eZ) _ ⟨(kr (Kd.R_mono eS.out (fun _ hk=>⟨hk.1.2,⟨hk.2,hk.1.1.2⟩⟩))),(kr cA.out),(kr (Kd.R_mono cH.out (fun _ hk=>⟨hk.2,⟨hk.1.2,hk.1.1⟩⟩))),(kr (Kd.R_mono eC.out (fun _ hk=>⟨hk.2,⟨hk.1.2,hk.1.1⟩⟩))),(kr eA.out),(kr (Kd.R_mono bY.out (fun _ hk=>⟨hk.2,⟨hk.1.1,hk.1.2⟩⟩))),(bk aC.out),(bk aD.out),(bk aE.out),(bk aG.out),(bk aH.out),(bl HB.out)⟩)
    ·skip
     have hcv175:=Kd.C_string (P:=Tryd.prog) (A:=dZ) (c:=dX) Tryd.underlying22 Tryd.underlying5 Tryd.underlying9 eH.out;refine value_ (w1:=?_) (v:=?_) (by rfl) rfl ?_ ?_
     rotate_left 2
     ·go_simp
      constructor
      ·rfl
      ·rfl
     clear hcv175;refine hK.out _ _ trivial (fun hHeld=>?_)
     clear hK K;refine norm_ (a':=?_) ?_ ?_;rotate_left
     ·show Act.put _ (some 143) _=_
      simp only [Act.put,sA,sZ,sS,i64_w,i32_w]
      rfl
     refine one_ (i:=1) (N:=some 138) (bv 8 123) rfl rfl (one_of HT_.out (by kernel_rfl)) (by decide) (fun K hK=>?_)
     refine goes_ Tryd.func12 (by kernel_rfl) rfl #[.slice iB cK.length iC] (by rfl) rfl rfl xR ?_
     with_reducible refine (Z23.calls iH _ _ cK eD _ ?side1 ?side2 mX.out).mono ?_
     (case side1=>exact cM ((Kd.R_reads' eA.out).2.2))
     (case side2=>exact (Kd.R_reads' eA.out).2.1)
     rintro e uL ⟨eZ,rfl,ho0,hb⟩;refine ⟨_,rfl,?_⟩;have eS:=aM (Kd.R_lower (Kd.R_new' (Kd.R_new' (Kd.R_new' ho0 (Kd.R_lt (kr bY.out))) (Kd.R_lt (kr cH.out))) (Kd.R_lt (kr eC.out))) (below_size (bl HB.out)));replace bY:=aM (Kd.R_elder' (kr bY.out) (Kd.R_base ho0) hb);replace cA:=rK cA hb;replace cH:=aM (Kd.R_elder' (kr cH.out) (Kd.R_base ho0) hb);replace eC:=aM (Kd.R_elder' (kr eC.out) (Kd.R_base ho0) hb);replace eA:=rK eA hb;replace aC:=rB aC hb;replace aD:=rB aD hb;replace aE:=rB aE hb;replace aG:=rB aG hb;replace aH:=rB aH hb;replace eH:=aM (cB (by repeat ((with_reducible exact eH.out))) hb)
     replace HB:=rS HB hb
     (try clear hb)
     (try clear ho0)
     refine hK.out _ _ trivial (fun hHeld=>?_)
     clear hK K;refine norm_ (a':=?_) ?_ ?_;rotate_left
     ·show Act.put _ (some 138) _=_
      simp only [Act.put,sA,sZ,sS,i64_w,i32_w]
      rfl
     refine one_ (i:=2) (N:=some 139) (bv 8 127) rfl rfl (one_of HT_.out (by kernel_rfl)) (by decide) (fun K hK=>?_)
     have hcv177:=clip_string eS.out;refine value_ (w1:=?_) (v:=?_) (by rfl) rfl ?_ ?_
     rotate_left 2
     ·go_simp
      constructor
      ·rfl
      ·rfl
     clear hcv177;refine hK.out _ _ trivial (fun hHeld=>?_)
     clear hK K;refine norm_ (a':=?_) ?_ ?_;rotate_left
     ·show Act.put _ (some 139) _=_
      simp only [Act.put,sA,sZ,sS,i64_w,i32_w]
      rfl
     exact norm_ (by simp only [putAll,Act.put,sA,sZ,sS]) (hCont (eZ) _ ⟨(kr (Kd.R_mono eS.out (fun _ hk=>⟨hk.1.2,⟨hk.2,hk.1.1.2⟩⟩))),(kr cA.out),(kr (Kd.R_mono cH.out (fun _ hk=>⟨hk.2,⟨hk.1.2,hk.1.1⟩⟩))),(kr (Kd.R_mono eC.out (fun _ hk=>⟨hk.2,⟨hk.1.2,hk.1.1⟩⟩))),(kr eA.out),(kr (Kd.R_mono bY.out (fun _ hk=>⟨hk.2,⟨hk.1.1,hk.1.2⟩⟩))),(bk aC.out),(bk aD.out),(bk aE.out),(bk aG.out),(bk aH.out),(bl HB.out)⟩)
   rintro eZ eU ⟨h0_,h1_,h2_,h3_,h4_,h5_,h6_,h7_,h8_,h9_,h10_,h11_⟩;have eS:Aside0 (Kd.R (Kd.int .u8) 5 eU w.heap.size (fun k_=>some k_≠(dY:Value).ownBlock∧some k_≠(.slice dZ bD.length dX:Value).ownBlock∧some k_≠(cU:Value).ownBlock) eZ eD):=⟨h0_⟩
   replace cA:Aside0 (Kd.R k27 27 eU w.heap.size (fun k_=>some k_≠(.slice iB cK.length iC:Value).ownBlock∧k_≠cC∧k_≠bA∧k_≠bJ∧k_≠aJ) (.slice eF aI.length eG) aI):=⟨h1_⟩
   replace cH:Aside0 (Kd.R (Kd.int .u8) 5 eU w.heap.size (fun k_=>some k_≠(eZ:Value).ownBlock∧some k_≠(.slice dZ bD.length dX:Value).ownBlock∧some k_≠(cU:Value).ownBlock) dY bK):=⟨h2_⟩
   replace eC:Aside0 (Kd.R (Kd.int .u8) 5 eU w.heap.size (fun k_=>some k_≠(eZ:Value).ownBlock∧some k_≠(dY:Value).ownBlock∧some k_≠(cU:Value).ownBlock) (.slice dZ bD.length dX) bD):=⟨h3_⟩
   replace eA:Aside0 (Kd.R k27 27 eU w.heap.size (fun k_=>some k_≠(.slice eF aI.length eG:Value).ownBlock∧k_≠cC∧k_≠bA∧k_≠bJ∧k_≠aJ) (.slice iB cK.length iC) cK):=⟨h4_⟩
   replace bY:Aside0 (Kd.R (Kd.int .u8) 5 eU w.heap.size (fun k_=>some k_≠(eZ:Value).ownBlock∧some k_≠(dY:Value).ownBlock∧some k_≠(.slice dZ bD.length dX:Value).ownBlock) cU aX):=⟨h5_⟩
   replace aC:Aside0 (eU.heap[cC]?=some (.cells #[bM,bN,bO,bP,bQ,bT,bU,bV] 27 (0,0))):=⟨h6_⟩;replace aD:Aside0 (eU.heap[bA]?=some (.cells #[cV,cW,cX,cY,dA,dB,dC,dD] 27 (0,0))):=⟨h7_⟩;replace aE:Aside0 (eU.heap[bJ]?=some (.cells #[dM,dN,dO,dP,dQ,dR,dS,dU] 27 (0,0))):=⟨h8_⟩;replace aG:Aside0 (eU.heap[aJ]?=some (.cells #[cL,cN,cO,cP,cQ,cR,cS,cT] 27 (0,0))):=⟨h9_⟩;replace aH:Aside0 (eU.heap[aQ]?=some (.cells #[dE,dF,dG,dH,dI,dJ,dK,dL] 41 (0,0))):=⟨h10_⟩;replace HB:Aside0 (Below w.heap.size w eU):=⟨h11_⟩;clear h0_ h1_ h2_ h3_ h4_ h5_ h6_ h7_ h8_ h9_ h10_ h11_;have hHeld:=trivial;refine norm_ (a':=?_) ?_ ?_;rotate_left
   ·simp only [putAll,Act.put,sA,sZ,sS]
    rfl
   refine pZ 7 144 (bv 8 255) HT_ ?_;refine done_ (done_of HT_.out (by kernel_rfl)) ?_
   try go_wp2
   go_loopg [22,23] iH (fun kq qT qV w'=>∃ (iT:Bool) (cD:Int),qT=.bool iT∧qV=.int .i64 cD∧Aside0 (Z0.l0 kq aX aI bK iT cD bM bN bO bP bQ bT bU bV=some true)∧Aside0 (kq≤iH)∧Aside0 (Kd.R (Kd.int .u8) 5 w' w.heap.size (fun k_=>some k_≠(dY:Value).ownBlock) cU aX)∧Aside0 (Kd.R k27 27 w' w.heap.size (fun k_=>k_≠cC∧k_≠bA∧k_≠bJ∧k_≠aJ) (.slice eF aI.length eG) aI)∧Aside0 (Kd.R (Kd.int .u8) 5 w' w.heap.size (fun k_=>some k_≠(cU:Value).ownBlock) dY bK)∧Aside0 (w'.heap[cC]?=some (.cells #[bM,bN,bO,bP,bQ,bT,bU,bV] 27 (0,0)))∧Aside0 (w'.heap[bA]?=some (.cells #[cV,cW,cX,cY,dA,dB,dC,dD] 27 (0,0)))∧Aside0 (w'.heap[bJ]?=some (.cells #[dM,dN,dO,dP,dQ,dR,dS,dU] 27 (0,0)))∧Aside0 (w'.heap[aJ]?=some (.cells #[cL,cN,cO,cP,cQ,cR,cS,cT] 27 (0,0)))∧Aside0 (w'.heap[aQ]?=some (.cells #[dE,dF,dG,dH,dI,dJ,dK,dL] 41 (0,0)))∧Aside0 (Below w.heap.size w w'))
   case atStart=>exact ⟨(true),(0),xE,xE,H',⟨Nat.le_refl _⟩,⟨kr (Kd.R_mono bY.out (fun _ hk=>hk.2.1))⟩,⟨kr (Kd.R_mono cA.out (fun _ hk=>⟨hk.2.1,⟨hk.2.2.1,⟨hk.2.2.2.1,hk.2.2.2.2⟩⟩⟩))⟩,⟨kr (Kd.R_mono cH.out (fun _ hk=>hk.2.2))⟩,⟨bk aC.out⟩,⟨bk aD.out⟩,⟨bk aE.out⟩,⟨bk aG.out⟩,⟨bk aH.out⟩,⟨bl HB.out⟩⟩
   case round =>
    clear H'
    repeat first|clear iP|clear iQ|clear iR|clear iS|clear hD|clear hH|clear fB
    obtain ⟨iT,cD,rfl,rfl,HA,iU,bY,cA,cH,aC,aD,aE,aG,aH,HB⟩:=hrel;cases gk with
    | zero=>exact absurd HA.out (by simp [Z0.l0])
    | succ k2 =>
     have H:=HA.out;clear HA;simp only [Z0.l0] at H
     by_cases gR:cD<(aI.length:Int)
     case pos =>
      rw [if_pos gR] at H
      have iV:=decide_eq_true gR;clear gR
      by_cases iI:iT=true
      case neg =>
       replace iI:=Bool.eq_false_iff.mpr iI;subst iI;have H1:(Z0.l0 k2 aX aI bK false (wS cD) bM bN bO bP bQ bT bU bV)=some true:=by (rw [if_neg (show ¬ (false=true) by decide)] at H;exact H)
       clear H;have H:=H1;clear H1;have H':=aM H;clear H;go_wp2
       go_roundg k2
       case measure=>have:=HJ15.out;have:=iU.out;omega
       case rel=>exact ⟨(false),(wS cD),xE,xE,H',⟨by have:=HJ15.out;have:=iU.out;omega⟩,⟨kr bY.out⟩,⟨kr cA.out⟩,⟨kr cH.out⟩,⟨bk aC.out⟩,⟨bk aD.out⟩,⟨bk aE.out⟩,⟨bk aG.out⟩,⟨bk aH.out⟩,⟨bl HB.out⟩⟩
      subst iI;have H1:(if 0≤cD then ((Z49.f ((rd_T27 aI cD).f0) ((rd_T27 aI cD).f1) ((rd_T27 aI cD).f2.f0) ((rd_T27 aI cD).f2.f1) ((rd_T27 aI cD).f2.f2) ((rd_T27 aI cD).f2.f3) ((rd_T27 aI cD).f3) ((rd_T27 aI cD).f4)).bind fun jC=>(Z0.l0 k2 aX aI bK jC (wS cD) bM bN bO bP bQ bT bU bV)) else (none))=some true:=by (rw [if_pos rfl] at H;exact H)
      clear H;have H:=H1;clear H1;obtain ⟨jJ,H⟩:=gI H;obtain ⟨jC,lO,H⟩:=hB H;have pG:=aM lO;clear lO;have H':=aM H;clear H;have iD:0≤(cD:Int):=dT;have iE:cD<(aI.length:Int):=dT;obtain ⟨qW,oJ,pH,pI,pJ,pK,pL,pM,pN,pO⟩:=at_T27 (Kd.R_reads' cA.out).2.2 cD iD iE;cases oJ
      replace iD:=eq_true iD;replace iE:=eq_true iE;go_wp2_with ((go_at_call 24;(with_reducible refine (Z49.calls ((rd_T27 aI cD).f0) ((rd_T27 aI cD).f1) ((rd_T27 aI cD).f2.f0) ((rd_T27 aI cD).f2.f1) ((rd_T27 aI cD).f2.f2) ((rd_T27 aI cD).f2.f3) ((rd_T27 aI cD).f3) ((rd_T27 aI cD).f4) jC _ pG.out).mono ?_);rintro e uM ⟨rfl,hb⟩;replace bY:=rK bY hb;replace cA:=rK cA hb;replace cH:=rK cH hb;replace aC:=rB aC hb;replace aD:=rB aD hb;replace aE:=rB aE hb;replace aG:=rB aG hb;replace aH:=rB aH hb;replace HB:=rS HB hb;(try clear hb)))
      go_roundg k2
      case measure=>have:=HJ15.out;have:=iU.out;omega
      case rel=>exact ⟨(jC),(wS cD),xE,xE,H',⟨by have:=HJ15.out;have:=iU.out;omega⟩,⟨kr bY.out⟩,⟨kr cA.out⟩,⟨kr cH.out⟩,⟨bk aC.out⟩,⟨bk aD.out⟩,⟨bk aE.out⟩,⟨bk aG.out⟩,⟨bk aH.out⟩,⟨bl HB.out⟩⟩
     rw [if_neg gR] at H
     have iV:=decide_eq_false gR;clear gR;have kP:=aM H;clear H;go_upto_if 159 with (fail)
     go_cut [] (fun wc=>∃ (kq:Nat),Aside0 (Z0.j4 kq aX bM bN bO bP bQ bT bU bV=some true)∧Aside0 (kq≤k2)∧Aside0 (Kd.R (Kd.int .u8) 5 wc w.heap.size (fun _=>True) cU aX)∧Aside0 (wc.heap[cC]?=some (.cells #[bM,bN,bO,bP,bQ,bT,bU,bV] 27 (0,0)))∧Aside0 (wc.heap[bA]?=some (.cells #[cV,cW,cX,cY,dA,dB,dC,dD] 27 (0,0)))∧Aside0 (wc.heap[bJ]?=some (.cells #[dM,dN,dO,dP,dQ,dR,dS,dU] 27 (0,0)))∧Aside0 (wc.heap[aJ]?=some (.cells #[cL,cN,cO,cP,cQ,cR,cS,cT] 27 (0,0)))∧Aside0 (wc.heap[aQ]?=some (.cells #[dE,dF,dG,dH,dI,dJ,dK,dL] 41 (0,0)))∧Aside0 (Below w.heap.size w wc))
     case first =>
      have H:=kP.out;clear kP
      by_cases iJ:iT=true
      case neg =>
       replace iJ:=Bool.eq_false_iff.mpr iJ;subst iJ;have H1:(Z0.j4 k2 aX bM bN bO bP bQ bT bU bV)=some true:=by (rw [if_neg (show ¬ (false=true) by decide)] at H;exact H)
       clear H;have H:=H1;clear H1;have H':=aM H;clear H;go_wp2
       go_meet
       case rel=>exact ⟨_,H',⟨by have:=HJ15.out;have:=iU.out;omega⟩,⟨kr (Kd.R_mono bY.out (fun _ hk=>trivial))⟩,⟨bk aC.out⟩,⟨bk aD.out⟩,⟨bk aE.out⟩,⟨bk aG.out⟩,⟨bk aH.out⟩,⟨bl HB.out⟩⟩
      subst iJ;have H1:((Z27.f k2 bK).bind fun iW=>(if iW.2=(bK.length:Int) then (Z0.j2 k2 aX aI iW.1 ((iW.1.length:Int) != (aI.length:Int)) bM bN bO bP bQ bT bU bV) else (Z0.j2 k2 aX aI iW.1 true bM bN bO bP bQ bT bU bV)))=some true:=by (rw [if_pos rfl] at H;exact H)
      clear H;have H:=H1;clear H1;obtain ⟨⟨bZ,iF⟩,lP,H⟩:=hB H
      try dsimp only at H
      have pP:=aM lP;clear lP;have kQ:=aM H;clear H;obtain ⟨oK,tS,oL⟩:=Kd.R_slice cH.out;subst oL;go_upto_region 25 with (((with_reducible refine gC (f:=14) rfl ?_);refine goesL_ (some 162) rfl rfl Tryd.func14 (by kernel_rfl) rfl #[.slice oK bK.length bK.length] rfl xR ?_;(with_reducible refine (Z27.calls k2 _ _ bK bZ iF _ ?side1 ?side2 pP.out).mono ?_);(case side1=>exact cM ((Kd.R_reads' cH.out).2.2));(case side2=>exact Nat.le_refl _);rintro e uN ⟨jD,rfl,ho0,hb⟩;refine ⟨_,rfl,?_⟩;have lF:=aM (Kd.R_lower (Kd.R_newB (Kd.R_newB (Kd.R_newB (Kd.R_newB (Kd.R_new' ho0 (Kd.R_lt (kr cA.out))) (g:=cC) (o:=.cells #[bM,bN,bO,bP,bQ,bT,bU,bV] 27 (0,0)) (bk aC.out)) (g:=bA) (o:=.cells #[cV,cW,cX,cY,dA,dB,dC,dD] 27 (0,0)) (bk aD.out)) (g:=bJ) (o:=.cells #[dM,dN,dO,dP,dQ,dR,dS,dU] 27 (0,0)) (bk aE.out)) (g:=aJ) (o:=.cells #[cL,cN,cO,cP,cQ,cR,cS,cT] 27 (0,0)) (bk aG.out)) (below_size (bl HB.out)));replace bY:=rK bY hb;replace cA:=aM (Kd.R_elder' (kr cA.out) (Kd.R_base ho0) hb);replace cH:=rK cH hb;replace aC:=rB aC hb;replace aD:=rB aD hb;replace aE:=rB aE hb;replace aG:=rB aG hb;replace aH:=rB aH hb;replace HB:=rS HB hb;(repeat first|clear hb|clear ho0)))
      go_cut [175] (fun pQ wc=>∃ (kq:Nat) (gS:Bool),pQ=.bool gS∧Aside0 (Z0.j2 kq aX aI bZ gS bM bN bO bP bQ bT bU bV=some true)∧Aside0 (kq≤k2)∧Aside0 (Kd.R (Kd.int .u8) 5 wc w.heap.size (fun _=>True) cU aX)∧Aside0 (Kd.R k27 27 wc w.heap.size (fun k_=>some k_≠(jD:Value).ownBlock∧k_≠cC∧k_≠bA∧k_≠bJ∧k_≠aJ) (.slice eF aI.length eG) aI)∧Aside0 (Kd.R k27 27 wc w.heap.size (fun k_=>some k_≠((.slice eF aI.length eG):Value).ownBlock∧k_≠cC∧k_≠bA∧k_≠bJ∧k_≠aJ) jD bZ)∧Aside0 (wc.heap[cC]?=some (.cells #[bM,bN,bO,bP,bQ,bT,bU,bV] 27 (0,0)))∧Aside0 (wc.heap[bA]?=some (.cells #[cV,cW,cX,cY,dA,dB,dC,dD] 27 (0,0)))∧Aside0 (wc.heap[bJ]?=some (.cells #[dM,dN,dO,dP,dQ,dR,dS,dU] 27 (0,0)))∧Aside0 (wc.heap[aJ]?=some (.cells #[cL,cN,cO,cP,cQ,cR,cS,cT] 27 (0,0)))∧Aside0 (wc.heap[aQ]?=some (.cells #[dE,dF,dG,dH,dI,dJ,dK,dL] 41 (0,0)))∧Aside0 (Below w.heap.size w wc))
      case first =>
       have H:=kQ.out;clear kQ
       by_cases gO:iF=(bK.length:Int)
       case neg =>
        rw [if_neg gO] at H
        have eT:(iF == (bK.length:Int))=false:=beq_eq_false_iff_ne.mpr gO;have iX:(iF != (bK.length:Int))=true:=bne_iff_ne.mpr gO
        (skip)
        exact absurd H (Z0.j2_no _ _ _ _ _ _ _ _ _ _ _ _)
       rw [if_pos gO] at H
       have eT:(iF == (bK.length:Int))=true:=beq_iff_eq.mpr gO;have iX:(iF != (bK.length:Int))=false:=bne_eq_false_iff_eq.mpr gO;clear gO
       (skip)
       have H':=aM H;clear H;obtain ⟨tT,tV,oM⟩:=Kd.R_slice lF.out;subst oM;go_wp2
       go_meet
       case rel=>exact ⟨_,(((bZ.length:Int) != (aI.length:Int))),xE,H',⟨by have:=HJ15.out;have:=iU.out;omega⟩,⟨kr (Kd.R_mono bY.out (fun _ hk=>trivial))⟩,⟨kr (Kd.R_mono cA.out (fun _ hk=>by exact ⟨hk.2,⟨hk.1.1,⟨hk.1.2.1,⟨hk.1.2.2.1,hk.1.2.2.2⟩⟩⟩⟩))⟩,⟨kr (Kd.R_mono lF.out (fun _ hk=>by exact ⟨hk.1.1.1.1.2,⟨hk.1.1.1.2,⟨hk.1.1.2,⟨hk.1.2,hk.2⟩⟩⟩⟩))⟩,⟨bk aC.out⟩,⟨bk aD.out⟩,⟨bk aE.out⟩,⟨bk aG.out⟩,⟨bk aH.out⟩,⟨bl HB.out⟩⟩
      case rest =>
       clear kQ
       repeat clear iV
       obtain ⟨kq,gS,rfl,HA,HJ186,bY,cA,eE,aC,aD,aE,aG,aH,HB⟩:=hcut;cases kq with
       | zero=>exact absurd HA.out (by simp [Z0.j2])
       | succ kT =>
        have H:=HA.out;clear HA;simp only [Z0.j2] at H
        by_cases iZ:gS=true
        case pos =>
         subst iZ;have H1:(some false)=some true:=by (rw [if_pos rfl] at H;exact H)
         clear H;have H:=H1;clear H1;exact absurd (Option.some.inj H) (by decide)
        replace iZ:=Bool.eq_false_iff.mpr iZ;subst iZ;have H1:(Z0.l1 kT aX aI bZ 0 bM bN bO bP bQ bT bU bV)=some true:=by (rw [if_neg (show ¬ (false=true) by decide)] at H;exact H)
        clear H;have H:=H1;clear H1;have H':=aM H;clear H;go_wp2
        go_loopg [26] kT (fun kq qX w'=>∃ (aT:Int),qX=.int .i64 aT∧Aside0 (Z0.l1 kq aX aI bZ aT bM bN bO bP bQ bT bU bV=some true)∧Aside0 (kq≤kT)∧Aside0 (Kd.R (Kd.int .u8) 5 w' w.heap.size (fun _=>True) cU aX)∧Aside0 (Kd.R k27 27 w' w.heap.size (fun k_=>some k_≠(jD:Value).ownBlock∧k_≠cC∧k_≠bA∧k_≠bJ∧k_≠aJ) (.slice eF aI.length eG) aI)∧Aside0 (Kd.R k27 27 w' w.heap.size (fun k_=>some k_≠((.slice eF aI.length eG):Value).ownBlock∧k_≠cC∧k_≠bA∧k_≠bJ∧k_≠aJ) jD bZ)∧Aside0 (w'.heap[cC]?=some (.cells #[bM,bN,bO,bP,bQ,bT,bU,bV] 27 (0,0)))∧Aside0 (w'.heap[bA]?=some (.cells #[cV,cW,cX,cY,dA,dB,dC,dD] 27 (0,0)))∧Aside0 (w'.heap[bJ]?=some (.cells #[dM,dN,dO,dP,dQ,dR,dS,dU] 27 (0,0)))∧Aside0 (w'.heap[aJ]?=some (.cells #[cL,cN,cO,cP,cQ,cR,cS,cT] 27 (0,0)))∧Aside0 (w'.heap[aQ]?=some (.cells #[dE,dF,dG,dH,dI,dJ,dK,dL] 41 (0,0)))∧Aside0 (Below w.heap.size w w'))
        case atStart=>exact ⟨(0),xE,H',⟨Nat.le_refl _⟩,⟨kr bY.out⟩,⟨kr cA.out⟩,⟨kr eE.out⟩,⟨bk aC.out⟩,⟨bk aD.out⟩,⟨bk aE.out⟩,⟨bk aG.out⟩,⟨bk aH.out⟩,⟨bl HB.out⟩⟩
        case round =>
         clear H'
         repeat first|clear c1|clear p1|clear q1|clear hcv1|clear p2|clear c5|clear p6|clear lQ|clear lS|clear mY|clear pA|clear mZ|clear hcv16|clear nA|clear kL|clear hcv17|clear lL|clear pB|clear gU|clear eR|clear iA|clear lT|clear kR|clear kS|clear hcv163|clear hcv165|clear gY|clear gP|clear iP|clear iQ|clear gQ|clear iR|clear iS|clear fA|clear hD|clear hH|clear fB|clear hcv175|clear hcv176|clear hcv177|clear gR|clear iV|clear iI|clear nB|clear jJ|clear iJ|clear gO|clear eT|clear iX|clear iZ|clear p1|clear lQ|clear kR|clear iD|clear p2|clear p6|clear lT|clear q1|clear lS|clear kS|clear iE|clear kL|clear fB
         obtain ⟨aT,rfl,HA,nC,bY,cA,eE,aC,aD,aE,aG,aH,HB⟩:=hrel;cases gk with
         | zero=>exact absurd HA.out (by simp [Z0.l1])
         | succ k4 =>
          have H:=HA.out;clear HA;simp only [Z0.l1] at H
          by_cases iK:aT<(aI.length:Int)
          case neg =>
           rw [if_neg iK] at H
           have lG:=decide_eq_false iK;clear iK;have H':=aM H;clear H;go_wp2
           go_meet
           case rel=>exact ⟨_,H',⟨by have:=HJ15.out;have:=iU.out;have:=HJ186.out;have:=nC.out;omega⟩,⟨kr bY.out⟩,⟨bk aC.out⟩,⟨bk aD.out⟩,⟨bk aE.out⟩,⟨bk aG.out⟩,⟨bk aH.out⟩,⟨bl HB.out⟩⟩
          rw [if_pos iK] at H
          have lG:=decide_eq_true iK;clear iK;obtain ⟨nD,H⟩:=gI H;obtain ⟨nE,H⟩:=gI H
          by_cases iL:(!(((rd_T27 bZ aT).f0) == ((rd_T27 aI aT).f0)) || (!(((rd_T27 bZ aT).f1) == ((rd_T27 aI aT).f1)) || ((!(((rd_T27 bZ aT).f2.f0) == ((rd_T27 aI aT).f2.f0)) || (!(((rd_T27 bZ aT).f2.f1) == ((rd_T27 aI aT).f2.f1)) || (!(((rd_T27 bZ aT).f2.f2) == ((rd_T27 aI aT).f2.f2)) || (!(((rd_T27 bZ aT).f2.f3) == ((rd_T27 aI aT).f2.f3)))))) || (!(((rd_T27 bZ aT).f3) == ((rd_T27 aI aT).f3)) || (!(((rd_T27 bZ aT).f4) == ((rd_T27 aI aT).f4)))))))=true
          case pos =>
           rw [if_pos iL] at H
           have lH:(!(((rd_T27 bZ aT).f0) == ((rd_T27 aI aT).f0)) || (!(((rd_T27 bZ aT).f1) == ((rd_T27 aI aT).f1)) || ((!(((rd_T27 bZ aT).f2.f0) == ((rd_T27 aI aT).f2.f0)) || (!(((rd_T27 bZ aT).f2.f1) == ((rd_T27 aI aT).f2.f1)) || (!(((rd_T27 bZ aT).f2.f2) == ((rd_T27 aI aT).f2.f2)) || (!(((rd_T27 bZ aT).f2.f3) == ((rd_T27 aI aT).f2.f3)))))) || (!(((rd_T27 bZ aT).f3) == ((rd_T27 aI aT).f3)) || (!(((rd_T27 bZ aT).f4) == ((rd_T27 aI aT).f4)))))))=true:=iL;clear iL;have HX_:=aM (Option.some.inj H);clear H
           try go_wp2
           replace bY:=aM (Kd.R_drew bY.out);replace cA:=aM (Kd.R_drew cA.out);replace eE:=aM (Kd.R_drew eE.out);replace aC:=aM (blk_drew aC.out);replace aD:=aM (blk_drew aD.out);replace aE:=aM (blk_drew aE.out);replace aG:=aM (blk_drew aG.out);replace aH:=aM (blk_drew aH.out);replace HB:=aM (below_drew1 HB.out);obtain ⟨tW,tX,lU⟩:=Kd.R_slice eE.out
           (subst lU)
           have fU:0≤(aT:Int):=dT;have fV:aT<(bZ.length:Int):=dT;obtain ⟨jK,kU,fC,fD,fE,fF,fG,fH,fI,fK⟩:=at_T27 (Kd.R_reads' eE.out).2.2 aT fU fV;cases kU
           replace fU:=eq_true fU;replace fV:=eq_true fV;have fW:0≤(aT:Int):=dT;have fX:aT<(aI.length:Int):=dT;obtain ⟨jL,kV,fL,fM,fN,fO,fP,fQ,fS,fT⟩:=at_T27 (Kd.R_reads' cA.out).2.2 aT fW fX;cases kV
           replace fW:=eq_true fW;replace fX:=eq_true fX;refine start_ (n:=9) (S:=fun w'=>cF27 w' jK (aT).toNat (rd_T27 bZ aT) (cE27 w' jL (aT).toNat (rd_T27 aI aT))) (ds:=[]) (dn 9 0) (by kernel_rfl) rfl rfl ⟨fC,fD,fE,fF,fG,fH,fI,fK,fL,fM,fN,fO,fP,fQ,fS,fT⟩ (fun hHeld=>?_);refine with_tabW Z0.tab30 Z0.bits30 (fun HT_ HW_=>?_)
           generalize wr.drew=uO at bY cA eE aC aD aE aG aH HB fC fD fE fF fG fH fI fK fL fM fN fO fP fQ fS fT hHeld ⊢
           refine nY (N:=some 182) HT_ ?_;refine nY (N:=some 183) HT_ ?_;refine nY (N:=some 184) HT_ ?_;refine pZ 4 186 (bv 9 23) HT_ ?_;refine pZ 5 187 (bv 9 55) HT_ ?_;refine pZ 6 188 (bv 9 119) HT_ ?_;refine aZ 3 185 (bv 9 127) HT_ HW_ hHeld ?_;refine aZ 7 189 (bv 9 255) HT_ HW_ hHeld ?_;refine pZ 8 190 (bv 9 511) HT_ ?_;refine done_ (done_of HT_.out (by kernel_rfl)) ?_
           try go_wp2
           go_ret
           exact ⟨by (rw [HX_.out] <;> rfl),bl HB.out⟩
          rw [if_neg iL] at H
          have lH:(!(((rd_T27 bZ aT).f0) == ((rd_T27 aI aT).f0)) || (!(((rd_T27 bZ aT).f1) == ((rd_T27 aI aT).f1)) || ((!(((rd_T27 bZ aT).f2.f0) == ((rd_T27 aI aT).f2.f0)) || (!(((rd_T27 bZ aT).f2.f1) == ((rd_T27 aI aT).f2.f1)) || (!(((rd_T27 bZ aT).f2.f2) == ((rd_T27 aI aT).f2.f2)) || (!(((rd_T27 bZ aT).f2.f3) == ((rd_T27 aI aT).f2.f3)))))) || (!(((rd_T27 bZ aT).f3) == ((rd_T27 aI aT).f3)) || (!(((rd_T27 bZ aT).f4) == ((rd_T27 aI aT).f4)))))))=false:=by simpa using iL
          clear iL;have H':=aM H;clear H
          try go_wp2
          replace bY:=aM (Kd.R_drew bY.out);replace cA:=aM (Kd.R_drew cA.out);replace eE:=aM (Kd.R_drew eE.out);replace aC:=aM (blk_drew aC.out);replace aD:=aM (blk_drew aD.out);replace aE:=aM (blk_drew aE.out);replace aG:=aM (blk_drew aG.out);replace aH:=aM (blk_drew aH.out);replace HB:=aM (below_drew1 HB.out);obtain ⟨tZ,uA,lV⟩:=Kd.R_slice eE.out
          (subst lV)
          have fU:0≤(aT:Int):=dT;have fV:aT<(bZ.length:Int):=dT;obtain ⟨jK,kU,fC,fD,fE,fF,fG,fH,fI,fK⟩:=at_T27 (Kd.R_reads' eE.out).2.2 aT fU fV;cases kU
          replace fU:=eq_true fU;replace fV:=eq_true fV;have fW:0≤(aT:Int):=dT;have fX:aT<(aI.length:Int):=dT;obtain ⟨jL,kV,fL,fM,fN,fO,fP,fQ,fS,fT⟩:=at_T27 (Kd.R_reads' cA.out).2.2 aT fW fX;cases kV
          replace fW:=eq_true fW;replace fX:=eq_true fX;refine start_ (n:=9) (S:=fun w'=>cF27 w' jK (aT).toNat (rd_T27 bZ aT) (cE27 w' jL (aT).toNat (rd_T27 aI aT))) (ds:=[]) (dn 9 0) (by kernel_rfl) rfl rfl ⟨fC,fD,fE,fF,fG,fH,fI,fK,fL,fM,fN,fO,fP,fQ,fS,fT⟩ (fun hHeld=>?_);refine with_tabW Z0.tab30 Z0.bits30 (fun HT_ HW_=>?_)
          generalize wr.drew=uP at bY cA eE aC aD aE aG aH HB fC fD fE fF fG fH fI fK fL fM fN fO fP fQ fS fT hHeld ⊢
          refine nY (N:=some 182) HT_ ?_;refine nY (N:=some 183) HT_ ?_;refine nY (N:=some 184) HT_ ?_;refine pZ 4 186 (bv 9 23) HT_ ?_;refine pZ 5 187 (bv 9 55) HT_ ?_;refine pZ 6 188 (bv 9 119) HT_ ?_;refine aZ 3 185 (bv 9 127) HT_ HW_ hHeld ?_;refine aZ 7 189 (bv 9 255) HT_ HW_ hHeld ?_;refine pZ 8 190 (bv 9 511) HT_ ?_;refine done_ (done_of HT_.out (by kernel_rfl)) ?_
          try go_wp2
          go_roundg k4
          case measure=>have:=HJ15.out;have:=iU.out;have:=HJ186.out;have:=nC.out;omega
          case rel=>exact ⟨(wS aT),xE,H',⟨by have:=HJ15.out;have:=iU.out;have:=HJ186.out;have:=nC.out;omega⟩,⟨kr bY.out⟩,⟨kr cA.out⟩,⟨kr eE.out⟩,⟨bk aC.out⟩,⟨bk aD.out⟩,⟨bk aE.out⟩,⟨bk aG.out⟩,⟨bk aH.out⟩,⟨bl HB.out⟩⟩
     case rest =>
      clear kP
      repeat clear iV
      obtain ⟨kq,HA,HJ183,bY,aC,aD,aE,aG,aH,HB⟩:=hcut;cases kq with
      | zero=>exact absurd HA.out (by simp [Z0.j4])
      | succ lW =>
       have H:=HA.out;clear HA;simp only [Z0.j4] at H;obtain ⟨oO,lX,H⟩:=hB H;have nF:=aM lX;clear lX
       by_cases kW:oO=true
       case neg =>
        replace kW:=Bool.eq_false_iff.mpr kW;subst kW;have H1:(some ((aX.length:Int) == 0))=some true:=by (rw [if_neg (show ¬ (false=true) by decide)] at H;exact H)
        clear H;have H:=H1;clear H1;have HX_:=aM (Option.some.inj H);clear H;have qY:=fY.out;have qZ:=gA.out;have rA:=gB.out;have rC:=gG.out;have rD:=gH.out;have rE:=gJ.out;have rF:=gK.out;have rG:=gM.out;have rH:=cA8 aC.out;go_wp2_with (((with_reducible refine gC (f:=24) rfl ?_);refine goesL_ (some 192) rfl rfl Tryd.func24 (by kernel_rfl) rfl #[.agg #[bM,bN,bO,bP,bQ,bT,bU,bV]] rfl xR ?_;(with_reducible refine (Z49.calls bM bN bO bP bQ bT bU bV false _ nF.out).mono ?_);rintro e uU ⟨rfl,hb⟩;refine ⟨_,rfl,?_⟩;replace bY:=rK bY hb;replace aC:=rB aC hb;replace aD:=rB aD hb;replace aE:=rB aE hb;replace aG:=rB aG hb;replace aH:=rB aH hb;replace HB:=rS HB hb;(try clear hb);obtain ⟨uB,uC,oP⟩:=Kd.R_slice bY.out;subst oP))
        go_ret
        exact ⟨by (rw [HX_.out] <;> rfl),bl HB.out⟩
       subst kW;have H1:((Z13.f lW aX 0).bind fun eI=>(if eI.2.2.2.2.2.2.2.2.2=true then (if eI.2.2.2.2.2.2.2.2.1=(aX.length:Int) then (some (eI.1 == bM && (eI.2.1 == bN && ((eI.2.2.1 == bO && (eI.2.2.2.1 == bP && (eI.2.2.2.2.1 == bQ && (eI.2.2.2.2.2.1 == bT)))) && (eI.2.2.2.2.2.2.1 == bU && (eI.2.2.2.2.2.2.2.1 == bV)))))) else (some false)) else (some false)))=some true:=by (rw [if_pos rfl] at H;exact H)
       clear H;have H:=H1;clear H1;obtain ⟨⟨lY,lZ,mA,mB,mC,mD,mE,mF,gT,oQ⟩,mG,H⟩:=hB H
       try dsimp only at H
       have pR:=aM mG;clear mG
       by_cases kX:oQ=true
       case neg =>
        replace kX:=Bool.eq_false_iff.mpr kX;subst kX;have H1:(some false)=some true:=by (rw [if_neg (show ¬ (false=true) by decide)] at H;exact H)
        clear H;have H:=H1;clear H1;exact absurd (Option.some.inj H) (by decide)
       subst kX;have H1:(if gT=(aX.length:Int) then (some (lY == bM && (lZ == bN && ((mA == bO && (mB == bP && (mC == bQ && (mD == bT)))) && (mE == bU && (mF == bV)))))) else (some false))=some true:=by (rw [if_pos rfl] at H;exact H)
       clear H;have H:=H1;clear H1
       by_cases iM:gT=(aX.length:Int)
       case neg =>
        rw [if_neg iM] at H
        have nI:(gT == (aX.length:Int))=false:=beq_eq_false_iff_ne.mpr iM;have nJ:(gT != (aX.length:Int))=true:=bne_iff_ne.mpr iM;exact absurd (Option.some.inj H) (by decide)
       rw [if_pos iM] at H
       have nI:(gT == (aX.length:Int))=true:=beq_iff_eq.mpr iM;have nJ:(gT != (aX.length:Int))=false:=bne_eq_false_iff_eq.mpr iM;clear iM;have HX_:=aM (Option.some.inj H);clear H;have rI:=fY.out;have rJ:=gA.out;have rL:=gB.out;have rM:=gG.out;have rN:=gH.out;have rO:=gJ.out;have rQ:=gK.out;have rR:=gM.out;have rT:=cA8 aC.out;go_wp2_with (first|((with_reducible refine gC (f:=24) rfl ?_);refine goesL_ (some 192) rfl rfl Tryd.func24 (by kernel_rfl) rfl #[.agg #[bM,bN,bO,bP,bQ,bT,bU,bV]] rfl xR ?_;(with_reducible refine (Z49.calls bM bN bO bP bQ bT bU bV true _ nF.out).mono ?_);rintro e uV ⟨rfl,hb⟩;refine ⟨_,rfl,?_⟩;replace bY:=rK bY hb;replace aC:=rB aC hb;replace aD:=rB aD hb;replace aE:=rB aE hb;replace aG:=rB aG hb;replace aH:=rB aH hb;replace HB:=rS HB hb;(try clear hb);obtain ⟨oR,oS,oT⟩:=Kd.R_slice bY.out;subst oT)|((with_reducible refine gC (f:=9) rfl ?_);refine goesL_ (some 199) rfl rfl Tryd.func9 (by kernel_rfl) rfl #[.slice oR aX.length oS,.int .i64 0] rfl xR ?_;(with_reducible refine (Z13.calls lW _ _ aX 0 lY lZ mA mB mC mD mE mF gT true _ ?side1 ?side2 pR.out).mono ?_);(case side1=>exact cM ((Kd.R_reads' bY.out).2.2));(case side2=>exact (Kd.R_reads' bY.out).2.1);rintro e uW ⟨rfl,hb⟩;refine ⟨_,rfl,?_⟩;replace bY:=rK bY hb;replace aC:=rB aC hb;replace aD:=rB aD hb;replace aE:=rB aE hb;replace aG:=rB aG hb;replace aH:=rB aH hb;replace HB:=rS HB hb;(try clear hb))|((with_reducible refine gD (N:=27) rfl ?_);(try (refine gate_guard (by rfl) ?_;dsimp only));refine bR bY (N:=27) (cs:=#[.int .i64 0,.int .i64 0,.int .i64 0,.int .i64 0,.int .i64 0,.int .i64 0,.int .i64 0,.bool false]) (t:=27) ?_;intro rV hg uX hbox hb;have nK:=aM (hbox);have rW:=gF hg HB;have rX:=gF hg HB;have jY:=nM hg aC;have jZ:=nH hg aC;have kA:=nM hg aD;have kC:=nH hg aD;have kD:=nM hg aE;have kE:=nH hg aE;have kG:=nM hg aG;have kH:=nH hg aG;have kI:=nM hg aH;have kJ:=nH hg aH;replace bY:=rK bY hb;replace aC:=rB aC hb;replace aD:=rB aD hb;replace aE:=rB aE hb;replace aG:=rB aG hb;replace aH:=rB aH hb;replace HB:=rS HB hb;clear hb hbox hg;have rY:=jZ.out;have rZ:=jY.out;have sB:=kC.out;have sC:=kA.out;have sD:=kE.out;have sE:=kD.out;have sF:=kH.out;have sG:=kG.out;have sH:=kJ.out;have sI:=kI.out;have sJ:=cA8 nK.out;have sK:=cA8 aC.out))
       go_ret
       exact ⟨by (rw [HX_.out] <;> rfl),bl HB.out⟩

end Go.Proofs.YtljbdchibfjbdaaDoor.PFnIns
