/- Of the proof of laws.FnCards: more words. No condition beyond what its theorems say. -/
import Derived.Test.YtjodolkdelffaaaVFnCardsWTight
set_option linter.unusedVariables false
set_option linter.unusedSimpArgs false
namespace Go.Proofs.YtjodolkdelffaaaW.PrintWords
open Go.RowKit Go.Proofs.YtjodolkdelffaaaW.PrintLast Go.Proofs.YtjodolkdelffaaaW.PrintMore
section
variable {P:Program}
theorem results_ctt {fn:Func} {p u v:Tmp} {ty:TypeId} (h:fn.results=#[.cell p ty,.tmp u,.tmp v]) (tmps:Array Value) (w:World) (g:Nat) (t:TypeId) (cs:Array Value) (fr:Nat × Nat) (d:TypeDesc)
  (hp:tmps.getD p undef=.pointer (some ⟨g,0,none⟩)) (hg:w.heap[g]?=some (.cells cs t fr))
  (hu:P.underlying ty=some d) (hd:(match d with|.struct _|.array _ _=>true|_=>false)=true) (hi:(P.info? ty).map (·.size)=some cs.size) :
  (results fn tmps).run P w=.ok (.tuple #[.agg cs,tmps.getD u undef,tmps.getD v undef]) w:=by
 have hp':tmps[p]?.getD undef=.pointer (some ⟨g,0,none⟩):=by simpa using hp
 simp [results,h,hp',asAddr,run_loadVar_row w g t ty cs fr d hg hu hd hi]
end
theorem string_of_reads {P:Program} {w:World} {src dst e:TypeId} {A:Option Addr} {n c:Nat} {xs:List Int} (hs:P.underlying src=some (.slice e)) (he:P.underlying e=some (.int .u8)) (hd:P.underlying dst=some .string)
  (h:ReadsInt w .u8 A n xs):(convert src dst (.slice A n c)).run P w=.ok (.string (strOfNums xs)) w:=by
 have hn:xs.length=n:=h.1
 rcases A with _|ad
 ·have h0:n=0:=by
   rcases Nat.eq_zero_or_pos n with h0|h0
   ·exact h0
   ·obtain ⟨ad,h',_⟩:=h.2.2 h0
    cases h'
  subst h0;obtain rfl:xs=[]:=List.eq_nil_of_length_eq_zero hn;exact run_convert_bytes_nil w src e hs he 0 c dst hd
 ·have hl:(loadCells ad n).run P w=.ok (xs.map (Value.int .u8)).toArray w:=by
   have:=run_loadCells_list (P:=P) w ad (xs.map (Value.int .u8)) (fun j v hj=>by
    have hjl:j<xs.length:=by
     rcases Nat.lt_or_ge j xs.length with h'|h'
     ·exact h'
     ·rw [List.getElem?_eq_none (by rw [List.length_map];exact h')] at hj
      cases hj
    obtain ⟨ad',he',hc⟩:=h.2.2 (by omega)
    injection he' with he'
    subst he';rw [hc j (by omega)]
    rw [List.getElem?_map,List.getElem?_eq_getElem hjl] at hj
    simp at hj
    subst hj;simp [List.getD_eq_getElem?_getD,List.getElem?_eq_getElem hjl])
   simpa [hn] using this
  rw [run_convert_bytes_string w src dst e _ n c hs he hd,run_bytesToString w ad n c xs hl,foldl_push_bytes]
  simp [strOfNums,ByteArray.empty,ByteArray.emptyWithCapacity]
  rfl
theorem Kd.C_string {P:Program} {w:World} {src dst e:TypeId} {A:Option Addr} {n c:Nat} {xs:List Int} (hs:P.underlying src=some (.slice e)) (he:P.underlying e=some (.int .u8)) (hd:P.underlying dst=some .string)
  (h:(Kd.int .u8).C w A n xs):(convert src dst (.slice A n c)).run P w=.ok (.string (strOfNums xs)) w :=
 string_of_reads hs he hd (Kd.reads_of_C (enc:=Value.int .u8) (d:=(0:Int)) (h1:=fun _=>rfl) h)
theorem cA5 {w:World} {g:Nat} {t:TypeId} {v0 v1 v2 v3 v4:Value} (h:w.heap[g]?=some (.cells #[v0,v1,v2,v3,v4] t (0,0))):w.cell? ⟨g,0,none⟩=some v0∧w.cell? ⟨g,1,none⟩=some v1∧w.cell? ⟨g,2,none⟩=some v2∧w.cell? ⟨g,3,none⟩=some v3∧w.cell? ⟨g,4,none⟩=some v4∧w.frozen? ⟨g,0,none⟩=false∧w.frozen? ⟨g,1,none⟩=false∧w.frozen? ⟨g,2,none⟩=false∧w.frozen? ⟨g,3,none⟩=false∧w.frozen? ⟨g,4,none⟩=false:=⟨cI h 0,cI h 1,cI h 2,cI h 3,cI h 4,blk_frozen h 0,blk_frozen h 1,blk_frozen h 2,blk_frozen h 3,blk_frozen h 4⟩
abbrev cS5 (w:World) (g:Nat) (v0 v1 v2 v3 v4:Value):Prop:=w.cell? ⟨g,0,none⟩=some v0∧w.cell? ⟨g,1,none⟩=some v1∧w.cell? ⟨g,2,none⟩=some v2∧w.cell? ⟨g,3,none⟩=some v3∧w.cell? ⟨g,4,none⟩=some v4
abbrev cT5 (w:World) (g:Nat) (v0 v1 v2 v3 v4:Value) (p:Prop):Prop:=w.cell? ⟨g,0,none⟩=some v0∧w.cell? ⟨g,1,none⟩=some v1∧w.cell? ⟨g,2,none⟩=some v2∧w.cell? ⟨g,3,none⟩=some v3∧w.cell? ⟨g,4,none⟩=some v4∧p
theorem pA5 {w:World} {g:Nat} {t:TypeId} {v0 v1 v2 v3 v4:Value} (h:HasB w g t 5):(((((w.setCell ⟨g,0,none⟩ v0).setCell ⟨g,1,none⟩ v1).setCell ⟨g,2,none⟩ v2).setCell ⟨g,3,none⟩ v3).setCell ⟨g,4,none⟩ v4).heap[g]?=some (.cells #[v0,v1,v2,v3,v4] t (0,0)):=by
  obtain ⟨cs,hk,h⟩:=h;obtain ⟨l⟩:=cs;replace hk:l.length=5:=hk;obtain ⟨o0,l,rfl⟩:=exl hk;replace hk:l.length=4:=by simpa using hk
  obtain ⟨o1,l,rfl⟩:=exl hk;replace hk:l.length=3:=by simpa using hk
  obtain ⟨o2,l,rfl⟩:=exl hk;replace hk:l.length=2:=by simpa using hk
  obtain ⟨o3,l,rfl⟩:=exl hk;replace hk:l.length=1:=by simpa using hk
  obtain ⟨o4,l,rfl⟩:=exl hk;replace hk:l.length=0:=by simpa using hk
  obtain rfl:=List.eq_nil_of_length_eq_zero hk;have:=(blk_set (blk_set (blk_set (blk_set (blk_set h 0 v0) 1 v1) 2 v2) 3 v3) 4 v4);simp only [sA,sZ,sS] at this;exact this
theorem kn_ {α:Type} {d:Kd α} {e:Nat} {W W':World} {base:Nat} {ok:Nat→Prop} {v:Value} {xs:List α} (h:Kd.N d e W base ok v xs) (hs:Kd.N d e W base ok v xs→Kd.N d e W' base ok v xs:=by intro h;(with_reducible repeat (first|apply Kd.N_alloc|apply Kd.N_drewN|apply Kd.N_drew));exact h):Kd.N d e W' base ok v xs:=hs h
theorem kv_ {α:Type} {d:Kd α} {e:Nat} {W W':World} {base:Nat} {ok:Nat→Prop} {v:Value} {xs:List α} (h:Kd.V d e W base ok v xs) (hs:Kd.V d e W base ok v xs→Kd.V d e W' base ok v xs:=by intro h;(with_reducible repeat (first|apply Kd.V_alloc|apply Kd.V_drewN|apply Kd.V_drew));exact h):Kd.V d e W' base ok v xs:=hs h
theorem bn {W W':World} {g:Nat} {t:TypeId} {cs cs':Array Value} (h:W.heap[g]?=some (.cells cs t (0,0))) (hs:W.heap[g]?=some (.cells cs t (0,0))→W'.heap[g]?=some (.cells cs' t (0,0)):=by intro h;repeat (with_reducible first|exact h|exact HasB.of h rfl|refine blk_drewN ?_ _|refine blk_drew ?_|refine blk_alloc ?_ _|refine HasB.drewN ?_ _|refine HasB.drew ?_|refine HasB.alloc ?_ _|refine blk_far ?_ (Aside0.out (by assumption)) _|refine HasB.far ?_ (Aside0.out (by assumption)) _|refine pA5 ?_|refine pA4 ?_|refine pA3 ?_|refine pA2 ?_)):W'.heap[g]?=some (.cells cs' t (0,0)):=hs h
end Go.Proofs.YtjodolkdelffaaaW.PrintWords
