/- A part of the proof of laws.FnIns. No condition beyond what its theorems say. -/
import Derived.Test.YtljbdchibfjbdaaDoorVFnInsWTight
import Derived.Test.YtljbdchibfjbdaaDoorProg
import Derived.WalkSpells
import Derived.Below
import Derived.Deep.Draws
import Derived.Deep.AppendLies
import Derived.Maps.AppendAt
import Derived.OwnWalk
import Derived.Laws.BytesArg
import Derived.Laws.MakeOwn
import Derived.Laws.OwnMore
import Derived.Deep.OwnRows
import Derived.Tactics
import Derived.Lib.ConvBytes
import Derived.Laws.Slices
import Derived.WalkKit
import Derived.KernelRfl
import Derived.RowKit3
import Derived.Deep.LoopGhost
import Derived.Deep.QuietTactic
import Derived.BigQuiet
import Derived.WideLaws
import Derived.Deep.DeepCutAuto
import Derived.Deep.CutBlock
import Derived.Deep.RegionHeld3
import Derived.Laws.Rows
import Derived.Lib.AppendStr
import Derived.ArgAppend
import Derived.Laws.IdiomCopy
import Derived.OrdersHeld
import Derived.Laws.BitsLemmas
import Derived.RowKit
import Derived.Test.YtljbdchibfjbdaaDoorVFnInsWTab
import Derived.Test.YtljbdchibfjbdaaDoorVFnInsWAt
import Derived.Test.YtljbdchibfjbdaaDoorVFnInsWEqStruct
import Derived.Test.YtljbdchibfjbdaaDoorVFnInsWRepsOne
import Derived.Test.YtljbdchibfjbdaaDoorVFnInsWInv
import Derived.Test.YtljbdchibfjbdaaDoorVFnInsWFootNe
import Derived.Test.YtljbdchibfjbdaaDoorVFnInsWGuard
import Derived.Test.YtljbdchibfjbdaaDoorVFnInsWMore
namespace Go.Proofs.YtljbdchibfjbdaaDoor.PFnIns
open Go.RowKit Go.Proofs.YtljbdchibfjbdaaDoorW.PrintWords Go.Proofs.YtljbdchibfjbdaaDoorW.PrintLast Go.Proofs.YtljbdchibfjbdaaDoorW.PrintMore
set_option linter.unusedVariables false
set_option linter.unusedSimpArgs false



def errW:Option Int→Value
 | none=>.nilIface
 | some c=>.iface 0 (.int .i64 c)
theorem errW_none:errW none=.nilIface:=rfl
theorem errW_some (c:Int):errW (some c)=.iface 0 (.int .i64 c):=rfl

theorem info3:(Tryd.prog.info? 3).map (fun i=>(i.zero,i.size,i.bytes))=some (some (.int .i64 0),1,8):=by kernel_rfl
theorem info5:(Tryd.prog.info? 5).map (fun i=>(i.zero,i.size,i.bytes))=some (some (.int .u8 0),1,1):=by kernel_rfl
theorem info27:(Tryd.prog.info? 27).map (fun i=>(i.zero,i.size,i.bytes))=some (some (.agg #[(.int .i64 0),(.int .i64 0),(.int .i64 0),(.int .i64 0),(.int .i64 0),(.int .i64 0),(.int .i64 0),(.bool false)]),8,64):=by kernel_rfl
theorem info41:(Tryd.prog.info? 41).map (fun i=>(i.zero,i.size,i.bytes))=some (some (.agg #[(.int .i64 0),(.int .i64 0),(.int .i64 0),(.int .i64 0),(.int .i64 0),(.int .i64 0),(.int .i64 0),(.bool false)]),8,64):=by kernel_rfl
theorem info102:(Tryd.prog.info? 102).map (fun i=>(i.zero,i.size,i.bytes))=some (some (.agg #[(.bool false),(.bool false),(.int .i64 0),(.int .i64 0),(.int .i64 0),(.int .i64 0),(.int .i64 0),(.int .i64 0),(.int .i64 0),(.int .i64 0),(.bool false)]),11,80):=by kernel_rfl
-- the values' own types
structure S25 where
 f0:Int
 f1:Int
 f2:Int
 f3:Int
def z25:S25:=⟨(0:Int),(0:Int),(0:Int),(0:Int)⟩
def k25:Kd S25:=Kd.iso (Kd.pair (Kd.int .i64) (Kd.pair (Kd.int .i64) (Kd.pair (Kd.int .i64) (Kd.int .i64)))) (fun x:S25=>(x.f0,x.f1,x.f2,x.f3))
theorem k25_open {w:World} {x:S25} {cs:List Value} (h:k25.K w x cs):cs=[.int .i64 x.f0,.int .i64 x.f1,.int .i64 x.f2,.int .i64 x.f3]:=by
 obtain ⟨_,_,rfl,rfl,⟨_,_,rfl,rfl,⟨_,_,rfl,rfl,rfl⟩⟩⟩:=h;exact rfl
theorem k25_openM {w:World} {base:Nat} {ok:Nat→Prop} {x:S25} {cs:List Value} (h:k25.M w base ok x cs):cs=[.int .i64 x.f0,.int .i64 x.f1,.int .i64 x.f2,.int .i64 x.f3]:=by
 obtain ⟨_,_,rfl,rfl,⟨_,_,rfl,rfl,⟨_,_,rfl,rfl,rfl⟩⟩⟩:=h;exact rfl
theorem k25_mk (w:World) (x:S25) :k25.K w x [.int .i64 x.f0,.int .i64 x.f1,.int .i64 x.f2,.int .i64 x.f3]:=⟨[.int .i64 x.f0],[.int .i64 x.f1,.int .i64 x.f2,.int .i64 x.f3],rfl,rfl,⟨[.int .i64 x.f1],[.int .i64 x.f2,.int .i64 x.f3],rfl,rfl,⟨[.int .i64 x.f2],[.int .i64 x.f3],rfl,rfl,rfl⟩⟩⟩
theorem k25_mkM (w:World) (base:Nat) (ok:Nat→Prop) (x:S25) :k25.M w base ok x [.int .i64 x.f0,.int .i64 x.f1,.int .i64 x.f2,.int .i64 x.f3]:=⟨[.int .i64 x.f0],[.int .i64 x.f1,.int .i64 x.f2,.int .i64 x.f3],rfl,rfl,⟨[.int .i64 x.f1],[.int .i64 x.f2,.int .i64 x.f3],rfl,rfl,⟨[.int .i64 x.f2],[.int .i64 x.f3],rfl,rfl,rfl⟩⟩⟩
def rd_T25 (xs:List S25) (i:Int):S25:=xs.getD i.toNat z25
theorem at_T25 {w:World} {A:Option Addr} {n:Nat} {xs:List S25} (h:Kd.C k25 w A n xs) (i:Int) (h0:0≤i) (h1:i<n):∃ ad ,A=some ad∧w.cell? (ad.add (i.toNat*4))=some (.int .i64 (rd_T25 xs i).f0)∧w.cell? ⟨(ad.add (i.toNat*4)).block,(ad.add (i.toNat*4)).off+1,none⟩=some (.int .i64 (rd_T25 xs i).f1)∧w.cell? ⟨(ad.add (i.toNat*4)).block,(ad.add (i.toNat*4)).off+2,none⟩=some (.int .i64 (rd_T25 xs i).f2)∧w.cell? ⟨(ad.add (i.toNat*4)).block,(ad.add (i.toNat*4)).off+3,none⟩=some (.int .i64 (rd_T25 xs i).f3):=by
 obtain ⟨ad,c,e,_,hK,hc0⟩:=Kd.C_get h z25 i h0 h1;have hc:∀ j u,c[j]?=some u→w.cell? (ad.add (i.toNat*4+j))=some u:=hc0;obtain rfl:=k25_open hK;exact ⟨ad,e,hc 0 _ rfl,by rw [← add_field _ _ 1 (by omega)];exact hc 1 _ rfl,by rw [← add_field _ _ 2 (by omega)];exact hc 2 _ rfl,by rw [← add_field _ _ 3 (by omega)];exact hc 3 _ rfl⟩

structure S27 where
 f0:Int
 f1:Int
 f2:S25
 f3:Int
 f4:Bool
def z27:S27:=⟨(0:Int),(0:Int),z25,(0:Int),false⟩
def k27:Kd S27:=Kd.iso (Kd.pair (Kd.int .i64) (Kd.pair (Kd.int .i64) (Kd.pair k25 (Kd.pair (Kd.int .i64) Kd.bool)))) (fun x:S27=>(x.f0,x.f1,x.f2,x.f3,x.f4))
theorem k27_open {w:World} {x:S27} {cs:List Value} (h:k27.K w x cs):cs=[.int .i64 x.f0,.int .i64 x.f1,.int .i64 x.f2.f0,.int .i64 x.f2.f1,.int .i64 x.f2.f2,.int .i64 x.f2.f3,.int .i64 x.f3,.bool x.f4]:=by
 obtain ⟨_,_,rfl,rfl,⟨_,_,rfl,rfl,⟨_,_,rfl,s2,⟨_,_,rfl,rfl,rfl⟩⟩⟩⟩:=h;obtain rfl:=k25_open s2;exact rfl
theorem k27_openM {w:World} {base:Nat} {ok:Nat→Prop} {x:S27} {cs:List Value} (h:k27.M w base ok x cs):cs=[.int .i64 x.f0,.int .i64 x.f1,.int .i64 x.f2.f0,.int .i64 x.f2.f1,.int .i64 x.f2.f2,.int .i64 x.f2.f3,.int .i64 x.f3,.bool x.f4]:=by
 obtain ⟨_,_,rfl,rfl,⟨_,_,rfl,rfl,⟨_,_,rfl,s2,⟨_,_,rfl,rfl,rfl⟩⟩⟩⟩:=h;obtain rfl:=k25_openM s2;exact rfl
theorem k27_mk (w:World) (x:S27) :k27.K w x [.int .i64 x.f0,.int .i64 x.f1,.int .i64 x.f2.f0,.int .i64 x.f2.f1,.int .i64 x.f2.f2,.int .i64 x.f2.f3,.int .i64 x.f3,.bool x.f4]:=⟨[.int .i64 x.f0],[.int .i64 x.f1,.int .i64 x.f2.f0,.int .i64 x.f2.f1,.int .i64 x.f2.f2,.int .i64 x.f2.f3,.int .i64 x.f3,.bool x.f4],rfl,rfl,⟨[.int .i64 x.f1],[.int .i64 x.f2.f0,.int .i64 x.f2.f1,.int .i64 x.f2.f2,.int .i64 x.f2.f3,.int .i64 x.f3,.bool x.f4],rfl,rfl,⟨[.int .i64 x.f2.f0,.int .i64 x.f2.f1,.int .i64 x.f2.f2,.int .i64 x.f2.f3],[.int .i64 x.f3,.bool x.f4],rfl,(k25_mk w x.f2 ),⟨[.int .i64 x.f3],[.bool x.f4],rfl,rfl,rfl⟩⟩⟩⟩
theorem k27_mkM (w:World) (base:Nat) (ok:Nat→Prop) (x:S27) :k27.M w base ok x [.int .i64 x.f0,.int .i64 x.f1,.int .i64 x.f2.f0,.int .i64 x.f2.f1,.int .i64 x.f2.f2,.int .i64 x.f2.f3,.int .i64 x.f3,.bool x.f4]:=⟨[.int .i64 x.f0],[.int .i64 x.f1,.int .i64 x.f2.f0,.int .i64 x.f2.f1,.int .i64 x.f2.f2,.int .i64 x.f2.f3,.int .i64 x.f3,.bool x.f4],rfl,rfl,⟨[.int .i64 x.f1],[.int .i64 x.f2.f0,.int .i64 x.f2.f1,.int .i64 x.f2.f2,.int .i64 x.f2.f3,.int .i64 x.f3,.bool x.f4],rfl,rfl,⟨[.int .i64 x.f2.f0,.int .i64 x.f2.f1,.int .i64 x.f2.f2,.int .i64 x.f2.f3],[.int .i64 x.f3,.bool x.f4],rfl,(k25_mkM w base ok x.f2 ),⟨[.int .i64 x.f3],[.bool x.f4],rfl,rfl,rfl⟩⟩⟩⟩
def rd_T27 (xs:List S27) (i:Int):S27:=xs.getD i.toNat z27
theorem at_T27 {w:World} {A:Option Addr} {n:Nat} {xs:List S27} (h:Kd.C k27 w A n xs) (i:Int) (h0:0≤i) (h1:i<n):∃ ad ,A=some ad∧w.cell? (ad.add (i.toNat*8))=some (.int .i64 (rd_T27 xs i).f0)∧w.cell? ⟨(ad.add (i.toNat*8)).block,(ad.add (i.toNat*8)).off+1,none⟩=some (.int .i64 (rd_T27 xs i).f1)∧w.cell? ⟨(ad.add (i.toNat*8)).block,(ad.add (i.toNat*8)).off+2,none⟩=some (.int .i64 (rd_T27 xs i).f2.f0)∧w.cell? ⟨(ad.add (i.toNat*8)).block,(ad.add (i.toNat*8)).off+3,none⟩=some (.int .i64 (rd_T27 xs i).f2.f1)∧w.cell? ⟨(ad.add (i.toNat*8)).block,(ad.add (i.toNat*8)).off+4,none⟩=some (.int .i64 (rd_T27 xs i).f2.f2)∧w.cell? ⟨(ad.add (i.toNat*8)).block,(ad.add (i.toNat*8)).off+5,none⟩=some (.int .i64 (rd_T27 xs i).f2.f3)∧w.cell? ⟨(ad.add (i.toNat*8)).block,(ad.add (i.toNat*8)).off+6,none⟩=some (.int .i64 (rd_T27 xs i).f3)∧w.cell? ⟨(ad.add (i.toNat*8)).block,(ad.add (i.toNat*8)).off+7,none⟩=some (.bool (rd_T27 xs i).f4):=by
 obtain ⟨ad,c,e,_,hK,hc0⟩:=Kd.C_get h z27 i h0 h1;have hc:∀ j u,c[j]?=some u→w.cell? (ad.add (i.toNat*8+j))=some u:=hc0;obtain rfl:=k27_open hK;exact ⟨ad,e,hc 0 _ rfl,by rw [← add_field _ _ 1 (by omega)];exact hc 1 _ rfl,by rw [← add_field _ _ 2 (by omega)];exact hc 2 _ rfl,by rw [← add_field _ _ 3 (by omega)];exact hc 3 _ rfl,by rw [← add_field _ _ 4 (by omega)];exact hc 4 _ rfl,by rw [← add_field _ _ 5 (by omega)];exact hc 5 _ rfl,by rw [← add_field _ _ 6 (by omega)];exact hc 6 _ rfl,by rw [← add_field _ _ 7 (by omega)];exact hc 7 _ rfl⟩

structure S102 where
 f0:Bool
 f1:Bool
 f2:S25
 f3:Int
 f4:Int
 f5:Int
 f6:Int
 f7:Bool
def z102:S102:=⟨false,false,z25,(0:Int),(0:Int),(0:Int),(0:Int),false⟩
def k102:Kd S102:=Kd.iso (Kd.pair Kd.bool (Kd.pair Kd.bool (Kd.pair k25 (Kd.pair (Kd.int .i64) (Kd.pair (Kd.int .i64) (Kd.pair (Kd.int .i64) (Kd.pair (Kd.int .i64) Kd.bool))))))) (fun x:S102=>(x.f0,x.f1,x.f2,x.f3,x.f4,x.f5,x.f6,x.f7))
theorem k102_open {w:World} {x:S102} {cs:List Value} (h:k102.K w x cs):cs=[.bool x.f0,.bool x.f1,.int .i64 x.f2.f0,.int .i64 x.f2.f1,.int .i64 x.f2.f2,.int .i64 x.f2.f3,.int .i64 x.f3,.int .i64 x.f4,.int .i64 x.f5,.int .i64 x.f6,.bool x.f7]:=by
 obtain ⟨_,_,rfl,rfl,⟨_,_,rfl,rfl,⟨_,_,rfl,s2,⟨_,_,rfl,rfl,⟨_,_,rfl,rfl,⟨_,_,rfl,rfl,⟨_,_,rfl,rfl,rfl⟩⟩⟩⟩⟩⟩⟩:=h;obtain rfl:=k25_open s2;exact rfl
theorem k102_openM {w:World} {base:Nat} {ok:Nat→Prop} {x:S102} {cs:List Value} (h:k102.M w base ok x cs):cs=[.bool x.f0,.bool x.f1,.int .i64 x.f2.f0,.int .i64 x.f2.f1,.int .i64 x.f2.f2,.int .i64 x.f2.f3,.int .i64 x.f3,.int .i64 x.f4,.int .i64 x.f5,.int .i64 x.f6,.bool x.f7]:=by
 obtain ⟨_,_,rfl,rfl,⟨_,_,rfl,rfl,⟨_,_,rfl,s2,⟨_,_,rfl,rfl,⟨_,_,rfl,rfl,⟨_,_,rfl,rfl,⟨_,_,rfl,rfl,rfl⟩⟩⟩⟩⟩⟩⟩:=h;obtain rfl:=k25_openM s2;exact rfl
theorem k102_mk (w:World) (x:S102) :k102.K w x [.bool x.f0,.bool x.f1,.int .i64 x.f2.f0,.int .i64 x.f2.f1,.int .i64 x.f2.f2,.int .i64 x.f2.f3,.int .i64 x.f3,.int .i64 x.f4,.int .i64 x.f5,.int .i64 x.f6,.bool x.f7]:=⟨[.bool x.f0],[.bool x.f1,.int .i64 x.f2.f0,.int .i64 x.f2.f1,.int .i64 x.f2.f2,.int .i64 x.f2.f3,.int .i64 x.f3,.int .i64 x.f4,.int .i64 x.f5,.int .i64 x.f6,.bool x.f7],rfl,rfl,⟨[.bool x.f1],[.int .i64 x.f2.f0,.int .i64 x.f2.f1,.int .i64 x.f2.f2,.int .i64 x.f2.f3,.int .i64 x.f3,.int .i64 x.f4,.int .i64 x.f5,.int .i64 x.f6,.bool x.f7],rfl,rfl,⟨[.int .i64 x.f2.f0,.int .i64 x.f2.f1,.int .i64 x.f2.f2,.int .i64 x.f2.f3],[.int .i64 x.f3,.int .i64 x.f4,.int .i64 x.f5,.int .i64 x.f6,.bool x.f7],rfl,(k25_mk w x.f2 ),⟨[.int .i64 x.f3],[.int .i64 x.f4,.int .i64 x.f5,.int .i64 x.f6,.bool x.f7],rfl,rfl,⟨[.int .i64 x.f4],[.int .i64 x.f5,.int .i64 x.f6,.bool x.f7],rfl,rfl,⟨[.int .i64 x.f5],[.int .i64 x.f6,.bool x.f7],rfl,rfl,⟨[.int .i64 x.f6],[.bool x.f7],rfl,rfl,rfl⟩⟩⟩⟩⟩⟩⟩
theorem k102_mkM (w:World) (base:Nat) (ok:Nat→Prop) (x:S102) :k102.M w base ok x [.bool x.f0,.bool x.f1,.int .i64 x.f2.f0,.int .i64 x.f2.f1,.int .i64 x.f2.f2,.int .i64 x.f2.f3,.int .i64 x.f3,.int .i64 x.f4,.int .i64 x.f5,.int .i64 x.f6,.bool x.f7]:=⟨[.bool x.f0],[.bool x.f1,.int .i64 x.f2.f0,.int .i64 x.f2.f1,.int .i64 x.f2.f2,.int .i64 x.f2.f3,.int .i64 x.f3,.int .i64 x.f4,.int .i64 x.f5,.int .i64 x.f6,.bool x.f7],rfl,rfl,⟨[.bool x.f1],[.int .i64 x.f2.f0,.int .i64 x.f2.f1,.int .i64 x.f2.f2,.int .i64 x.f2.f3,.int .i64 x.f3,.int .i64 x.f4,.int .i64 x.f5,.int .i64 x.f6,.bool x.f7],rfl,rfl,⟨[.int .i64 x.f2.f0,.int .i64 x.f2.f1,.int .i64 x.f2.f2,.int .i64 x.f2.f3],[.int .i64 x.f3,.int .i64 x.f4,.int .i64 x.f5,.int .i64 x.f6,.bool x.f7],rfl,(k25_mkM w base ok x.f2 ),⟨[.int .i64 x.f3],[.int .i64 x.f4,.int .i64 x.f5,.int .i64 x.f6,.bool x.f7],rfl,rfl,⟨[.int .i64 x.f4],[.int .i64 x.f5,.int .i64 x.f6,.bool x.f7],rfl,rfl,⟨[.int .i64 x.f5],[.int .i64 x.f6,.bool x.f7],rfl,rfl,⟨[.int .i64 x.f6],[.bool x.f7],rfl,rfl,rfl⟩⟩⟩⟩⟩⟩⟩
def rd_T102 (xs:List S102) (i:Int):S102:=xs.getD i.toNat z102
theorem at_T102 {w:World} {A:Option Addr} {n:Nat} {xs:List S102} (h:Kd.C k102 w A n xs) (i:Int) (h0:0≤i) (h1:i<n):∃ ad ,A=some ad∧w.cell? (ad.add (i.toNat*11))=some (.bool (rd_T102 xs i).f0)∧w.cell? ⟨(ad.add (i.toNat*11)).block,(ad.add (i.toNat*11)).off+1,none⟩=some (.bool (rd_T102 xs i).f1)∧w.cell? ⟨(ad.add (i.toNat*11)).block,(ad.add (i.toNat*11)).off+2,none⟩=some (.int .i64 (rd_T102 xs i).f2.f0)∧w.cell? ⟨(ad.add (i.toNat*11)).block,(ad.add (i.toNat*11)).off+3,none⟩=some (.int .i64 (rd_T102 xs i).f2.f1)∧w.cell? ⟨(ad.add (i.toNat*11)).block,(ad.add (i.toNat*11)).off+4,none⟩=some (.int .i64 (rd_T102 xs i).f2.f2)∧w.cell? ⟨(ad.add (i.toNat*11)).block,(ad.add (i.toNat*11)).off+5,none⟩=some (.int .i64 (rd_T102 xs i).f2.f3)∧w.cell? ⟨(ad.add (i.toNat*11)).block,(ad.add (i.toNat*11)).off+6,none⟩=some (.int .i64 (rd_T102 xs i).f3)∧w.cell? ⟨(ad.add (i.toNat*11)).block,(ad.add (i.toNat*11)).off+7,none⟩=some (.int .i64 (rd_T102 xs i).f4)∧w.cell? ⟨(ad.add (i.toNat*11)).block,(ad.add (i.toNat*11)).off+8,none⟩=some (.int .i64 (rd_T102 xs i).f5)∧w.cell? ⟨(ad.add (i.toNat*11)).block,(ad.add (i.toNat*11)).off+9,none⟩=some (.int .i64 (rd_T102 xs i).f6)∧w.cell? ⟨(ad.add (i.toNat*11)).block,(ad.add (i.toNat*11)).off+10,none⟩=some (.bool (rd_T102 xs i).f7):=by
 obtain ⟨ad,c,e,_,hK,hc0⟩:=Kd.C_get h z102 i h0 h1;have hc:∀ j u,c[j]?=some u→w.cell? (ad.add (i.toNat*11+j))=some u:=hc0;obtain rfl:=k102_open hK;exact ⟨ad,e,hc 0 _ rfl,by rw [← add_field _ _ 1 (by omega)];exact hc 1 _ rfl,by rw [← add_field _ _ 2 (by omega)];exact hc 2 _ rfl,by rw [← add_field _ _ 3 (by omega)];exact hc 3 _ rfl,by rw [← add_field _ _ 4 (by omega)];exact hc 4 _ rfl,by rw [← add_field _ _ 5 (by omega)];exact hc 5 _ rfl,by rw [← add_field _ _ 6 (by omega)];exact hc 6 _ rfl,by rw [← add_field _ _ 7 (by omega)];exact hc 7 _ rfl,by rw [← add_field _ _ 8 (by omega)];exact hc 8 _ rfl,by rw [← add_field _ _ 9 (by omega)];exact hc 9 _ rfl,by rw [← add_field _ _ 10 (by omega)];exact hc 10 _ rfl⟩

structure S41 where
 f0:Int
 f1:Int
 f2:S25
 f3:Int
 f4:Bool
def z41:S41:=⟨(0:Int),(0:Int),z25,(0:Int),false⟩
def k41:Kd S41:=Kd.iso (Kd.pair (Kd.int .i64) (Kd.pair (Kd.int .i64) (Kd.pair k25 (Kd.pair (Kd.int .i64) Kd.bool)))) (fun x:S41=>(x.f0,x.f1,x.f2,x.f3,x.f4))
theorem k41_open {w:World} {x:S41} {cs:List Value} (h:k41.K w x cs):cs=[.int .i64 x.f0,.int .i64 x.f1,.int .i64 x.f2.f0,.int .i64 x.f2.f1,.int .i64 x.f2.f2,.int .i64 x.f2.f3,.int .i64 x.f3,.bool x.f4]:=by
 obtain ⟨_,_,rfl,rfl,⟨_,_,rfl,rfl,⟨_,_,rfl,s2,⟨_,_,rfl,rfl,rfl⟩⟩⟩⟩:=h;obtain rfl:=k25_open s2;exact rfl
theorem k41_openM {w:World} {base:Nat} {ok:Nat→Prop} {x:S41} {cs:List Value} (h:k41.M w base ok x cs):cs=[.int .i64 x.f0,.int .i64 x.f1,.int .i64 x.f2.f0,.int .i64 x.f2.f1,.int .i64 x.f2.f2,.int .i64 x.f2.f3,.int .i64 x.f3,.bool x.f4]:=by
 obtain ⟨_,_,rfl,rfl,⟨_,_,rfl,rfl,⟨_,_,rfl,s2,⟨_,_,rfl,rfl,rfl⟩⟩⟩⟩:=h;obtain rfl:=k25_openM s2;exact rfl
theorem k41_mk (w:World) (x:S41) :k41.K w x [.int .i64 x.f0,.int .i64 x.f1,.int .i64 x.f2.f0,.int .i64 x.f2.f1,.int .i64 x.f2.f2,.int .i64 x.f2.f3,.int .i64 x.f3,.bool x.f4]:=⟨[.int .i64 x.f0],[.int .i64 x.f1,.int .i64 x.f2.f0,.int .i64 x.f2.f1,.int .i64 x.f2.f2,.int .i64 x.f2.f3,.int .i64 x.f3,.bool x.f4],rfl,rfl,⟨[.int .i64 x.f1],[.int .i64 x.f2.f0,.int .i64 x.f2.f1,.int .i64 x.f2.f2,.int .i64 x.f2.f3,.int .i64 x.f3,.bool x.f4],rfl,rfl,⟨[.int .i64 x.f2.f0,.int .i64 x.f2.f1,.int .i64 x.f2.f2,.int .i64 x.f2.f3],[.int .i64 x.f3,.bool x.f4],rfl,(k25_mk w x.f2 ),⟨[.int .i64 x.f3],[.bool x.f4],rfl,rfl,rfl⟩⟩⟩⟩
theorem k41_mkM (w:World) (base:Nat) (ok:Nat→Prop) (x:S41) :k41.M w base ok x [.int .i64 x.f0,.int .i64 x.f1,.int .i64 x.f2.f0,.int .i64 x.f2.f1,.int .i64 x.f2.f2,.int .i64 x.f2.f3,.int .i64 x.f3,.bool x.f4]:=⟨[.int .i64 x.f0],[.int .i64 x.f1,.int .i64 x.f2.f0,.int .i64 x.f2.f1,.int .i64 x.f2.f2,.int .i64 x.f2.f3,.int .i64 x.f3,.bool x.f4],rfl,rfl,⟨[.int .i64 x.f1],[.int .i64 x.f2.f0,.int .i64 x.f2.f1,.int .i64 x.f2.f2,.int .i64 x.f2.f3,.int .i64 x.f3,.bool x.f4],rfl,rfl,⟨[.int .i64 x.f2.f0,.int .i64 x.f2.f1,.int .i64 x.f2.f2,.int .i64 x.f2.f3],[.int .i64 x.f3,.bool x.f4],rfl,(k25_mkM w base ok x.f2 ),⟨[.int .i64 x.f3],[.bool x.f4],rfl,rfl,rfl⟩⟩⟩⟩
def rd_T41 (xs:List S41) (i:Int):S41:=xs.getD i.toNat z41
theorem at_T41 {w:World} {A:Option Addr} {n:Nat} {xs:List S41} (h:Kd.C k41 w A n xs) (i:Int) (h0:0≤i) (h1:i<n):∃ ad ,A=some ad∧w.cell? (ad.add (i.toNat*8))=some (.int .i64 (rd_T41 xs i).f0)∧w.cell? ⟨(ad.add (i.toNat*8)).block,(ad.add (i.toNat*8)).off+1,none⟩=some (.int .i64 (rd_T41 xs i).f1)∧w.cell? ⟨(ad.add (i.toNat*8)).block,(ad.add (i.toNat*8)).off+2,none⟩=some (.int .i64 (rd_T41 xs i).f2.f0)∧w.cell? ⟨(ad.add (i.toNat*8)).block,(ad.add (i.toNat*8)).off+3,none⟩=some (.int .i64 (rd_T41 xs i).f2.f1)∧w.cell? ⟨(ad.add (i.toNat*8)).block,(ad.add (i.toNat*8)).off+4,none⟩=some (.int .i64 (rd_T41 xs i).f2.f2)∧w.cell? ⟨(ad.add (i.toNat*8)).block,(ad.add (i.toNat*8)).off+5,none⟩=some (.int .i64 (rd_T41 xs i).f2.f3)∧w.cell? ⟨(ad.add (i.toNat*8)).block,(ad.add (i.toNat*8)).off+6,none⟩=some (.int .i64 (rd_T41 xs i).f3)∧w.cell? ⟨(ad.add (i.toNat*8)).block,(ad.add (i.toNat*8)).off+7,none⟩=some (.bool (rd_T41 xs i).f4):=by
 obtain ⟨ad,c,e,_,hK,hc0⟩:=Kd.C_get h z41 i h0 h1;have hc:∀ j u,c[j]?=some u→w.cell? (ad.add (i.toNat*8+j))=some u:=hc0;obtain rfl:=k41_open hK;exact ⟨ad,e,hc 0 _ rfl,by rw [← add_field _ _ 1 (by omega)];exact hc 1 _ rfl,by rw [← add_field _ _ 2 (by omega)];exact hc 2 _ rfl,by rw [← add_field _ _ 3 (by omega)];exact hc 3 _ rfl,by rw [← add_field _ _ 4 (by omega)];exact hc 4 _ rfl,by rw [← add_field _ _ 5 (by omega)];exact hc 5 _ rfl,by rw [← add_field _ _ 6 (by omega)];exact hc 6 _ rfl,by rw [← add_field _ _ 7 (by omega)];exact hc 7 _ rfl⟩

/-- A slice cut to its length. -/
abbrev clipV:Value→Value
 | .slice A n _=>.slice A n n
 | v=>v
theorem clipV_slice (A:Option Addr) (n c:Nat):clipV (.slice A n c)=.slice A n n:=rfl

theorem eS102 {α:Type} {d:Kd α} {W:World} {g:Nat} {i:Int} (y:S102) (hcc:∀ (j:Nat) (u:Value),([.bool (y.f0),.bool (y.f1),.int .i64 (y.f2.f0),.int .i64 (y.f2.f1),.int .i64 (y.f2.f2),.int .i64 (y.f2.f3),.int .i64 (y.f3),.int .i64 (y.f4),.int .i64 (y.f5),.int .i64 (y.f6),.bool (y.f7)]:List Value)[j]?=some u→W.cell? ⟨g,i.toNat*d.sz+j,none⟩=some u) (hfr:∀ j,W.frozen? ⟨g,i.toNat*d.sz+j,none⟩=false) (hz:d.sz=11:=by rfl):W.cell? ⟨g,i.toNat*11,none⟩=some (.bool (y.f0))∧W.cell? ⟨g,i.toNat*11+1,none⟩=some (.bool (y.f1))∧W.cell? ⟨g,i.toNat*11+2,none⟩=some (.int .i64 (y.f2.f0))∧W.cell? ⟨g,i.toNat*11+3,none⟩=some (.int .i64 (y.f2.f1))∧W.cell? ⟨g,i.toNat*11+4,none⟩=some (.int .i64 (y.f2.f2))∧W.cell? ⟨g,i.toNat*11+5,none⟩=some (.int .i64 (y.f2.f3))∧W.cell? ⟨g,i.toNat*11+6,none⟩=some (.int .i64 (y.f3))∧W.cell? ⟨g,i.toNat*11+7,none⟩=some (.int .i64 (y.f4))∧W.cell? ⟨g,i.toNat*11+8,none⟩=some (.int .i64 (y.f5))∧W.cell? ⟨g,i.toNat*11+9,none⟩=some (.int .i64 (y.f6))∧W.cell? ⟨g,i.toNat*11+10,none⟩=some (.bool (y.f7))∧W.frozen? ⟨g,i.toNat*11,none⟩=false∧W.frozen? ⟨g,i.toNat*11+1,none⟩=false∧W.frozen? ⟨g,i.toNat*11+2,none⟩=false∧W.frozen? ⟨g,i.toNat*11+3,none⟩=false∧W.frozen? ⟨g,i.toNat*11+4,none⟩=false∧W.frozen? ⟨g,i.toNat*11+5,none⟩=false∧W.frozen? ⟨g,i.toNat*11+6,none⟩=false∧W.frozen? ⟨g,i.toNat*11+7,none⟩=false∧W.frozen? ⟨g,i.toNat*11+8,none⟩=false∧W.frozen? ⟨g,i.toNat*11+9,none⟩=false∧W.frozen? ⟨g,i.toNat*11+10,none⟩=false:=by
  rw [hz] at hcc hfr
  exact ⟨hcc 0 _ rfl,hcc 1 _ rfl,hcc 2 _ rfl,hcc 3 _ rfl,hcc 4 _ rfl,hcc 5 _ rfl,hcc 6 _ rfl,hcc 7 _ rfl,hcc 8 _ rfl,hcc 9 _ rfl,hcc 10 _ rfl,hfr 0,hfr 1,hfr 2,hfr 3,hfr 4,hfr 5,hfr 6,hfr 7,hfr 8,hfr 9,hfr 10⟩
abbrev cE102 (w:World) (ad:Addr) (j:Nat) (y:S102):Prop:=w.cell? (ad.add (j*11))=some (.bool (y.f0))∧w.cell? ⟨(ad.add (j*11)).block,(ad.add (j*11)).off+1,none⟩=some (.bool (y.f1))∧w.cell? ⟨(ad.add (j*11)).block,(ad.add (j*11)).off+2,none⟩=some (.int .i64 (y.f2.f0))∧w.cell? ⟨(ad.add (j*11)).block,(ad.add (j*11)).off+3,none⟩=some (.int .i64 (y.f2.f1))∧w.cell? ⟨(ad.add (j*11)).block,(ad.add (j*11)).off+4,none⟩=some (.int .i64 (y.f2.f2))∧w.cell? ⟨(ad.add (j*11)).block,(ad.add (j*11)).off+5,none⟩=some (.int .i64 (y.f2.f3))∧w.cell? ⟨(ad.add (j*11)).block,(ad.add (j*11)).off+6,none⟩=some (.int .i64 (y.f3))∧w.cell? ⟨(ad.add (j*11)).block,(ad.add (j*11)).off+7,none⟩=some (.int .i64 (y.f4))∧w.cell? ⟨(ad.add (j*11)).block,(ad.add (j*11)).off+8,none⟩=some (.int .i64 (y.f5))∧w.cell? ⟨(ad.add (j*11)).block,(ad.add (j*11)).off+9,none⟩=some (.int .i64 (y.f6))∧w.cell? ⟨(ad.add (j*11)).block,(ad.add (j*11)).off+10,none⟩=some (.bool (y.f7))
abbrev cF102 (w:World) (ad:Addr) (j:Nat) (y:S102) (p:Prop):Prop:=w.cell? (ad.add (j*11))=some (.bool (y.f0))∧w.cell? ⟨(ad.add (j*11)).block,(ad.add (j*11)).off+1,none⟩=some (.bool (y.f1))∧w.cell? ⟨(ad.add (j*11)).block,(ad.add (j*11)).off+2,none⟩=some (.int .i64 (y.f2.f0))∧w.cell? ⟨(ad.add (j*11)).block,(ad.add (j*11)).off+3,none⟩=some (.int .i64 (y.f2.f1))∧w.cell? ⟨(ad.add (j*11)).block,(ad.add (j*11)).off+4,none⟩=some (.int .i64 (y.f2.f2))∧w.cell? ⟨(ad.add (j*11)).block,(ad.add (j*11)).off+5,none⟩=some (.int .i64 (y.f2.f3))∧w.cell? ⟨(ad.add (j*11)).block,(ad.add (j*11)).off+6,none⟩=some (.int .i64 (y.f3))∧w.cell? ⟨(ad.add (j*11)).block,(ad.add (j*11)).off+7,none⟩=some (.int .i64 (y.f4))∧w.cell? ⟨(ad.add (j*11)).block,(ad.add (j*11)).off+8,none⟩=some (.int .i64 (y.f5))∧w.cell? ⟨(ad.add (j*11)).block,(ad.add (j*11)).off+9,none⟩=some (.int .i64 (y.f6))∧w.cell? ⟨(ad.add (j*11)).block,(ad.add (j*11)).off+10,none⟩=some (.bool (y.f7))∧p
theorem eS27 {α:Type} {d:Kd α} {W:World} {g:Nat} {i:Int} (y:S27) (hcc:∀ (j:Nat) (u:Value),([.int .i64 (y.f0),.int .i64 (y.f1),.int .i64 (y.f2.f0),.int .i64 (y.f2.f1),.int .i64 (y.f2.f2),.int .i64 (y.f2.f3),.int .i64 (y.f3),.bool (y.f4)]:List Value)[j]?=some u→W.cell? ⟨g,i.toNat*d.sz+j,none⟩=some u) (hfr:∀ j,W.frozen? ⟨g,i.toNat*d.sz+j,none⟩=false) (hz:d.sz=8:=by rfl):W.cell? ⟨g,i.toNat*8,none⟩=some (.int .i64 (y.f0))∧W.cell? ⟨g,i.toNat*8+1,none⟩=some (.int .i64 (y.f1))∧W.cell? ⟨g,i.toNat*8+2,none⟩=some (.int .i64 (y.f2.f0))∧W.cell? ⟨g,i.toNat*8+3,none⟩=some (.int .i64 (y.f2.f1))∧W.cell? ⟨g,i.toNat*8+4,none⟩=some (.int .i64 (y.f2.f2))∧W.cell? ⟨g,i.toNat*8+5,none⟩=some (.int .i64 (y.f2.f3))∧W.cell? ⟨g,i.toNat*8+6,none⟩=some (.int .i64 (y.f3))∧W.cell? ⟨g,i.toNat*8+7,none⟩=some (.bool (y.f4))∧W.frozen? ⟨g,i.toNat*8,none⟩=false∧W.frozen? ⟨g,i.toNat*8+1,none⟩=false∧W.frozen? ⟨g,i.toNat*8+2,none⟩=false∧W.frozen? ⟨g,i.toNat*8+3,none⟩=false∧W.frozen? ⟨g,i.toNat*8+4,none⟩=false∧W.frozen? ⟨g,i.toNat*8+5,none⟩=false∧W.frozen? ⟨g,i.toNat*8+6,none⟩=false∧W.frozen? ⟨g,i.toNat*8+7,none⟩=false:=by
  rw [hz] at hcc hfr
  exact ⟨hcc 0 _ rfl,hcc 1 _ rfl,hcc 2 _ rfl,hcc 3 _ rfl,hcc 4 _ rfl,hcc 5 _ rfl,hcc 6 _ rfl,hcc 7 _ rfl,hfr 0,hfr 1,hfr 2,hfr 3,hfr 4,hfr 5,hfr 6,hfr 7⟩
abbrev cE27 (w:World) (ad:Addr) (j:Nat) (y:S27):Prop:=w.cell? (ad.add (j*8))=some (.int .i64 (y.f0))∧w.cell? ⟨(ad.add (j*8)).block,(ad.add (j*8)).off+1,none⟩=some (.int .i64 (y.f1))∧w.cell? ⟨(ad.add (j*8)).block,(ad.add (j*8)).off+2,none⟩=some (.int .i64 (y.f2.f0))∧w.cell? ⟨(ad.add (j*8)).block,(ad.add (j*8)).off+3,none⟩=some (.int .i64 (y.f2.f1))∧w.cell? ⟨(ad.add (j*8)).block,(ad.add (j*8)).off+4,none⟩=some (.int .i64 (y.f2.f2))∧w.cell? ⟨(ad.add (j*8)).block,(ad.add (j*8)).off+5,none⟩=some (.int .i64 (y.f2.f3))∧w.cell? ⟨(ad.add (j*8)).block,(ad.add (j*8)).off+6,none⟩=some (.int .i64 (y.f3))∧w.cell? ⟨(ad.add (j*8)).block,(ad.add (j*8)).off+7,none⟩=some (.bool (y.f4))
abbrev cF27 (w:World) (ad:Addr) (j:Nat) (y:S27) (p:Prop):Prop:=w.cell? (ad.add (j*8))=some (.int .i64 (y.f0))∧w.cell? ⟨(ad.add (j*8)).block,(ad.add (j*8)).off+1,none⟩=some (.int .i64 (y.f1))∧w.cell? ⟨(ad.add (j*8)).block,(ad.add (j*8)).off+2,none⟩=some (.int .i64 (y.f2.f0))∧w.cell? ⟨(ad.add (j*8)).block,(ad.add (j*8)).off+3,none⟩=some (.int .i64 (y.f2.f1))∧w.cell? ⟨(ad.add (j*8)).block,(ad.add (j*8)).off+4,none⟩=some (.int .i64 (y.f2.f2))∧w.cell? ⟨(ad.add (j*8)).block,(ad.add (j*8)).off+5,none⟩=some (.int .i64 (y.f2.f3))∧w.cell? ⟨(ad.add (j*8)).block,(ad.add (j*8)).off+6,none⟩=some (.int .i64 (y.f3))∧w.cell? ⟨(ad.add (j*8)).block,(ad.add (j*8)).off+7,none⟩=some (.bool (y.f4))∧p
end Go.Proofs.YtljbdchibfjbdaaDoor.PFnIns
