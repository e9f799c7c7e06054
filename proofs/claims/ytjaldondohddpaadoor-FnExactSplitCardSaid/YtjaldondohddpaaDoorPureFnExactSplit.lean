/- The statement of laws.FnExactSplit over numbers and lists alone: at every input it answers true. No condition but that the numbers are those of their kinds and that no slice is longer than a Go slice can be. -/
import Derived.Test.YtjaldondohddpaaDoorPFnExactSplitx2
import Derived.Test.YtjaldondohddpaaDoorBase
import Derived.Lib.ItoaNum
import Derived.Lib.ItoaLen
import Derived.Lib.Strings
import Derived.Lib.SplitLaws
import Derived.Lib.IndexBytes
set_option linter.unusedVariables false
set_option linter.unusedSimpArgs false
namespace Go.Proofs.YtjaldondohddpaaDoor.Pure
open Go.RowKit Go.Proofs.YtjaldondohddpaaDoor.PFnExactSplit Go.Proofs.YtjaldondohddpaaDoor.Base Go.Proofs.YtjaldondohddpaaDoorW.PrintWords Go.Proofs.YtjaldondohddpaaDoorW.PrintLast Go.Proofs.YtjaldondohddpaaDoorW.PrintMore
def FnExactSplitPure : Prop := ∀ (a0 : ByteArray) (a1 : Int), (a0.size ≤ maxLen) → ((Lit.int .u8 a1).wf = true) → ∃ k, laws_FnExactSplit.f k a0 a1 = some true
theorem bytes_append (a b : List UInt8) : ((⟨a.toArray⟩ : ByteArray) ++ ⟨b.toArray⟩) = ⟨(a ++ b).toArray⟩ := by
  apply ByteArray.ext
  simp
theorem bytes_size (a : List UInt8) : (⟨a.toArray⟩ : ByteArray).size = a.length := by
  simp [ByteArray.size]
theorem strOfNums_one (x : Nat) : strOfNums [(x : Int)] = ⟨[UInt8.ofNat x].toArray⟩ := by
  simp [strOfNums]
def digs (m : Nat) : List UInt8 := if m = 0 then [] else Lib.decDigits m
theorem digs_step (m : Nat) (h : m ≠ 0) : digs m = digs (m / 10) ++ [UInt8.ofNat (48 + m % 10)] := by
  unfold digs
  rw [if_neg h]
  by_cases hs : m < 10
  · rw [Lib.decDigits_one hs, if_pos (by omega), Nat.mod_eq_of_lt hs]
    rfl
  · rw [if_neg (by omega)]
    conv => lhs; rw [Lib.decDigits]
    rw [dif_neg hs]
def ndigs (m : Nat) : Nat := if m = 0 then 0 else Lib.nDigits m
theorem ndigs_step (m : Nat) (h : m ≠ 0) : ndigs m = ndigs (m / 10) + 1 := by
  unfold ndigs
  rw [if_neg h]
  by_cases hs : m < 10
  · rw [Lib.nDigits_small hs, if_pos (by omega)]
  · rw [if_neg (by omega), Lib.nDigits_big hs]
theorem ndigs_le (m : Nat) (h : m < 18446744073709551616) : ndigs m ≤ 20 := by
  unfold ndigs
  split
  · omega
  · exact Lib.nDigits_le20 m h
/-! A text cut at a byte: as the reference's loop does it, and as the kit's word for strings.Split does. -/
def pc (c : UInt8) : List UInt8 → List UInt8 → List (List UInt8)
  | cur, [] => [cur]
  | cur, x :: t => if x = c then cur :: pc c [] t else pc c (cur ++ [x]) t
theorem indexByte_at (c : UInt8) : ∀ (cur t : List UInt8), c ∉ cur → Lib.index (cur ++ c :: t) [c] = (cur.length : Int) := by
  intro cur t h
  rw [Lib.index_one]
  induction cur with
  | nil => simp [Lib.indexByte]
  | cons x r ih =>
    have hx : ¬ x = c := fun e => h (by simp [e])
    have ih := ih (fun e => h (by simp [e]))
    simp only [List.cons_append, Lib.indexByte]
    rw [ih]
    simp [hx]
theorem splitK_pc (c : UInt8) (l : List UInt8) : ∀ cur : List UInt8, c ∉ cur → Lib.splitK [c] 0 (Lib.count (cur ++ l) [c]) (cur ++ l) = pc c cur l := by
  induction l with
  | nil =>
    intro cur h
    have e : Lib.count (cur ++ []) [c] = 0 := by rw [Lib.count_one, List.append_nil]; exact List.count_eq_zero.2 h
    rw [e, List.append_nil]
    rfl
  | cons x t ih =>
    intro cur h
    by_cases hx : x = c
    · subst hx
      have hi := indexByte_at x cur t h
      have hc : Lib.count (cur ++ x :: t) [x] = Lib.count t [x] + 1 := by
        rw [Lib.count_hit (by simp) hi]
        simp [Nat.add_comm]
      rw [hc]
      simp only [Lib.splitK, hi, pc, if_true]
      rw [if_neg (by simp)]
      have h2 := ih [] (by simp)
      simp only [List.nil_append] at h2
      rw [← h2]
      simp
    · have h2 := ih (cur ++ [x]) (by simp [h, Ne.symm hx])
      simp only [pc, if_neg hx]
      rw [← h2]
      simp
def mkB (p : List UInt8) : ByteArray := ⟨p.toArray⟩
theorem mkB_data (s : ByteArray) : mkB s.data.toList = s := by
  apply ByteArray.ext
  simp [mkB]
theorem pieces_pc (s : ByteArray) (c : UInt8) (a : Int) (h : strOfNums [a] = mkB [c]) : Cuts.pieces s a = (pc c [] s.data.toList).map mkB := by
  have e1 := splitK_pc c s.data.toList [] (by simp)
  have e2 := Lib.splitB_data (mkB [c]) 0 (Lib.countB s (mkB [c])) s
  have e3 : (mkB [c]).data.toList = [c] := by simp [mkB]
  simp only [List.nil_append] at e1
  unfold Cuts.pieces
  rw [h]
  have e4 : (Lib.splitB (mkB [c]) 0 (Lib.countB s (mkB [c])) s).map (fun p => p.data.toList) = pc c [] s.data.toList := by
    rw [e2, e3, ← e1]
    congr 1
  rw [← e4, List.map_map]
  conv => lhs; rw [← List.map_id (Lib.splitB (mkB [c]) 0 (Lib.countB s (mkB [c])) s)]
  apply List.map_congr_left
  intro p _
  exact (mkB_data p).symm
theorem pc_length (c : UInt8) (l : List UInt8) : ∀ cur, (pc c cur l).length ≤ l.length + 1 := by
  induction l with
  | nil => intro cur; simp [pc]
  | cons x t ih =>
    intro cur
    simp only [pc]
    split
    · have := ih []
      simp
      omega
    · have := ih (cur ++ [x])
      simp
      omega
theorem extract_mk (s : ByteArray) (i j : Nat) : s.extract i j = mkB ((s.data.toList.take j).drop i) := by
  apply ByteArray.ext
  apply Array.toList_inj.1
  simp [mkB, List.extract_eq_take_drop, List.drop_take]
theorem bt_list (s : ByteArray) (i : Nat) (x : UInt8) (h : s.data.toList[i]? = some x) : bt s (i : Int) = (x.toNat : Int) := by
  obtain ⟨h1, h2⟩ := List.getElem?_eq_some_iff.1 h
  have hs : i < s.size := by simpa using h1
  unfold bt
  rw [dif_pos (by simpa using hs)]
  congr 2
theorem markText_l (m : Nat) : ∀ (x : Int) (acc : List UInt8), x = (m : Int) → x ≤ 9223372036854775807 → acc.length + ndigs m ≤ 100 →
    Ev (fun k => laws_markText.l0 k x ⟨acc.toArray⟩) ⟨(109 :: (digs m ++ acc)).toArray⟩ := by
  induction m using Nat.strongRecOn with
  | ind m ih =>
    intro x acc hm h1 hacc
    by_cases hx : m = 0
    · subst hx
      refine ev_end fun k => ?_
      simp only [laws_markText.l0]
      rw [if_neg (by omega), if_pos (by rw [bytes_size]; omega)]
      show some ((⟨[109].toArray⟩ : ByteArray) ++ _) = _
      rw [bytes_append]
      simp [digs]
    · have hs := ndigs_step m hx
      have hd : Int.tmod x 10 = ((m % 10 : Nat) : Int) := by rw [hm]; rfl
      have hq : Int.tdiv x 10 = ((m / 10 : Nat) : Int) := by rw [hm]; rfl
      have hlt : m % 10 < 10 := Nat.mod_lt _ (by omega)
      have rec_ := ih (m / 10) (by omega) (Int.tdiv x 10) (UInt8.ofNat (48 + m % 10) :: acc) hq (by omega) (by simp; omega)
      rw [digs_step m hx, List.append_assoc]
      refine Ev.step (fun k => ?_) rec_
      simp only [laws_markText.l0]
      rw [if_pos (by omega)]
      simp only [Option.bind_some]
      have e : (wrap64 (48 + Int.tmod x 10)) % 256 = ((48 + m % 10 : Nat) : Int) := by rw [hd, w64 (by omega) (by omega)]; omega
      rw [e, strOfNums_one, bytes_append, bytes_size, bytes_size, if_pos (by simp; omega), w64 (x := Int.tdiv x 10) (by omega) (by omega)]
      rfl
def markB (n : Int) : ByteArray := ⟨(109 :: digs n.natAbs).toArray⟩
theorem markText_ev (n : Int) (h0 : 1 ≤ n) (h1 : n ≤ 1152921504606846976) : Ev (fun k => laws_markText.f k n) (markB n) := by
  have h := markText_l n.natAbs n [] (by omega) (by omega) (by have := ndigs_le n.natAbs (by omega); simp; omega)
  rw [List.append_nil] at h
  refine Ev.congr (fun k => ?_) h
  simp only [laws_markText.f]
  rw [if_neg (by omega)]
theorem rdOf_at {l : List ByteArray} {i : Nat} {x : ByteArray} (h : l[i]? = some x) : rdOf ByteArray.empty l (i : Int) = x := by
  simp [rdOf, List.getD, h]
theorem eqStringS_ev (l : List ByteArray) (h : l.length ≤ 4194304) : Ev (fun k => laws_eqStringS.f k l l) true := by
  have h0 := ev_list0 l (fun k i => laws_eqStringS.l0 k l l i) (fun _ => true)
    (ev_end fun k => by simp only [laws_eqStringS.l0]; rw [if_neg (by omega)])
    (fun i x t hi _ hx ih => Ev.step (fun k => by
      simp only [laws_eqStringS.l0]
      rw [if_pos (by omega), if_pos (by omega), if_pos (by omega), w64_succ (by omega)]
      try simp) ih)
  refine Ev.congr (fun k => ?_) h0
  simp [laws_eqStringS.f]
def upsS (m : Int) : List ByteArray → List ByteArray
  | [] => []
  | _ :: t => markB m :: upsS (m + 1) t
theorem upsS_length : ∀ (l : List ByteArray) (m : Int), (upsS m l).length = l.length := by
  intro l
  induction l with
  | nil => intro m; rfl
  | cons x t ih => intro m; simp [upsS, ih]
def setUpsS (acc : List ByteArray) (i : Nat) (m : Int) : List ByteArray → List ByteArray
  | [] => acc
  | _ :: t => setUpsS (acc.set i (markB m)) (i + 1) (m + 1) t
theorem setUpsS_eq : ∀ (t acc : List ByteArray) (i : Nat) (m : Int), i + t.length = acc.length → setUpsS acc i m t = acc.take i ++ upsS m t := by
  intro t
  induction t with
  | nil => intro acc i m h; simp at h; simp [setUpsS, upsS, h]
  | cons x t ih =>
    intro acc i m h
    simp at h
    rw [setUpsS, ih _ _ _ (by simp; omega)]
    have e : (acc.set i (markB m)).take (i + 1) = acc.take i ++ [markB m] := by
      rw [List.take_succ_eq_append_getElem (by simp; omega)]
      simp [List.take_set_of_le]
    rw [e]
    simp [upsS]
theorem markStringS_ev (l : List ByteArray) (m : Int) (h : l.length ≤ 4194304) (h0 : 1 ≤ m) (h1 : m ≤ 1000) : Ev (fun k => laws_markStringS.f k l m) (m + l.length, upsS m l) := by
  have hh := ev_list l (fun k (s : Nat × Int × List ByteArray) i => laws_markStringS.l0 k s.2.2 s.2.1 i) (fun s t => (s.2.1 + t.length, setUpsS s.2.2 s.1 s.2.1 t)) (fun i s => s.1 = i ∧ s.2.1 = m + i ∧ s.2.2.length = l.length)
    (fun s hI => by
      obtain ⟨j, n, acc⟩ := s
      obtain ⟨h2, h3, h4⟩ := hI
      dsimp only at h2 h3 h4 ⊢
      refine ev_end fun k => ?_
      simp only [laws_markStringS.l0]
      rw [if_neg (by omega)]
      simp [setUpsS])
    (fun i s x t hI hi _ hx ih => by
      obtain ⟨j, n, acc⟩ := s
      obtain ⟨h2, h3, h4⟩ := hI
      dsimp only at h2 h3 h4 ih ⊢
      subst h2
      have := ih (j + 1, n + 1, acc.set j (markB n)) ⟨rfl, by dsimp only; omega, by simp [h4]⟩
      have e : (n + ((x :: t).length : Nat), setUpsS acc j n (x :: t)) = (n + 1 + (t.length : Nat), setUpsS (acc.set j (markB n)) (j + 1) (n + 1) t) := by
        simp only [setUpsS, List.length_cons]
        congr 1
        omega
      rw [e]
      refine Ev.stepBind (markText_ev n (by omega) (by omega)) (fun k => ?_) (Ev.congr (fun k => ?_) this) (f := fun k t120 => if 0 ≤ (j : Int) then (laws_markStringS.l0 k (acc.set (j : Int).toNat t120) (wrap64 (n + 1)) (wrap64 ((j : Int) + 1))) else none)
      · simp only [laws_markStringS.l0]
        rw [if_pos (by omega)]
      · rw [if_pos (by omega), w64_succ (by omega), w64 (by omega) (by omega)]
        simp)
    (0, m, l) ⟨rfl, by simp, rfl⟩
  dsimp only at hh
  rw [setUpsS_eq _ _ _ _ (by simp)] at hh
  simpa [laws_markStringS.f] using hh
theorem heldStringS_ev (l : List ByteArray) (m : Int) (h : l.length ≤ 4194304) (h0 : 1 ≤ m) (h1 : m ≤ 1000) : Ev (fun k => laws_heldStringS.f k (upsS m l) m) (m + l.length) := by
  have key : ∀ (d i : Nat) (n : Int) (acc : List ByteArray), i + d = acc.length → acc.length = l.length → n = m + i → (∃ t : List ByteArray, acc.drop i = upsS n t ∧ t.length = d) → Ev (fun k => laws_heldStringS.l0 k acc n (i : Int)) (n + d) := by
    intro d
    induction d with
    | zero =>
      intro i n acc hi ha hn _
      refine ev_end fun k => ?_
      simp only [laws_heldStringS.l0]
      rw [if_neg (by omega)]
      simp
    | succ d ih =>
      intro i n acc hi ha hn ht
      obtain ⟨t, ht, htl⟩ := ht
      obtain ⟨x, t, rfl⟩ : ∃ x t', t = x :: t' := by
        cases t with
        | nil => simp at htl
        | cons x t => exact ⟨x, t, rfl⟩
      simp at htl
      have hlt : i < acc.length := by omega
      rw [List.drop_eq_getElem_cons hlt, upsS] at ht
      injection ht with e1 e2
      have := ih (i + 1) (n + 1) acc (by omega) ha (by omega) ⟨t, e2, htl⟩
      have e : n + ((d + 1 : Nat) : Int) = n + 1 + (d : Int) := by omega
      rw [e]
      refine Ev.stepBind (markText_ev n (by omega) (by omega)) (fun k => ?_) (Ev.congr (fun k => ?_) this) (f := fun k (t123 : ByteArray) => if (rdOf ByteArray.empty acc (i : Int)).toList = t123.toList then (laws_heldStringS.l0 k acc (wrap64 (n + 1)) (wrap64 ((i : Int) + 1))) else (some (-1)))
      · simp only [laws_heldStringS.l0]
        rw [if_pos (by omega), if_pos (by omega)]
      · rw [rdOf_at (List.getElem?_eq_getElem hlt), if_pos (by rw [e1]), w64_succ (by omega), w64 (by omega) (by omega)]
  have := key l.length 0 m (upsS m l) (by simp [upsS_length]) (upsS_length _ _) (by simp) ⟨l, by simp, rfl⟩
  simpa [laws_heldStringS.f] using this
theorem specSplit_l (s : ByteArray) (c : UInt8) (hs : s.size ≤ 1048576) (d : Nat) : ∀ (i from_ : Nat) (acc : List ByteArray), i + d = s.size → from_ ≤ i → acc.length ≤ i →
    Ev (fun k => spec_Split.l0 k s (c.toNat : Int) acc (from_ : Int) (i : Int)) (acc ++ (pc c ((s.data.toList.take i).drop from_) (s.data.toList.drop i)).map mkB) := by
  have hsz : s.data.toList.length = s.size := by simp
  induction d with
  | zero =>
    intro i from_ acc hi hf ha
    have e : i = s.size := by omega
    have e2 : s.data.toList.drop i = [] := List.drop_eq_nil_of_le (by omega)
    rw [e2]
    refine Ev.step (f := fun k => spec_Split.l0 k s (c.toNat : Int) (acc ++ [s.extract from_ i]) (wrap64 ((i : Int) + 1)) (wrap64 ((i : Int) + 1))) (fun k => ?_) ?_
    · simp only [spec_Split.l0]
      rw [if_pos (by omega), if_pos (by omega), if_pos (by omega), if_pos (by omega), if_pos (by omega)]
      simp
    · refine ev_end fun k => ?_
      simp only [spec_Split.l0]
      rw [w64_succ (by omega), if_neg (by omega), extract_mk]
      simp [pc]
  | succ d ih =>
    intro i from_ acc hi hf ha
    have hlt : i < s.data.toList.length := by omega
    have hx : s.data.toList[i]? = some (s.data.toList[i]) := List.getElem?_eq_getElem hlt
    have hb := bt_list s i _ hx
    have ht : s.data.toList.take (i + 1) = s.data.toList.take i ++ [s.data.toList[i]] := List.take_succ_eq_append_getElem hlt
    rw [List.drop_eq_getElem_cons hlt]
    by_cases hc : s.data.toList[i] = c
    · have r := ih (i + 1) (i + 1) (acc ++ [s.extract from_ i]) (by omega) (Nat.le_refl _) (by simp; omega)
      have e0 : (s.data.toList.take (i + 1)).drop (i + 1) = [] := List.drop_eq_nil_of_le (by simp; omega)
      rw [e0] at r
      simp only [pc, if_pos hc, List.map_cons]
      rw [show acc ++ mkB ((s.data.toList.take i).drop from_) :: List.map mkB (pc c [] (s.data.toList.drop (i + 1))) = (acc ++ [s.extract from_ i]) ++ List.map mkB (pc c [] (s.data.toList.drop (i + 1))) by rw [extract_mk]; simp]
      refine Ev.step (fun k => ?_) r
      simp only [spec_Split.l0]
      rw [if_pos (by omega), if_neg (by omega), if_pos (by omega), if_pos (by omega), if_pos (by rw [hb, hc]), if_pos (by omega), if_pos (by omega), if_pos (by omega), w64_succ (by omega)]
      simp
    · have r := ih (i + 1) from_ acc (by omega) (by omega) (by omega)
      simp only [pc, if_neg hc]
      have e0 : (s.data.toList.take (i + 1)).drop from_ = (s.data.toList.take i).drop from_ ++ [s.data.toList[i]] := by
        rw [ht, List.drop_append_of_le_length (by simp; omega)]
      rw [e0] at r
      refine Ev.step (fun k => ?_) r
      have hn : ¬ bt s (i : Int) = (c.toNat : Int) := by
        rw [hb]
        intro e
        exact hc (UInt8.toNat_inj.1 (by omega))
      simp only [spec_Split.l0]
      rw [if_pos (by omega), if_neg (by omega), if_pos (by omega), if_pos (by omega), if_neg hn, w64_succ (by omega)]
theorem byte_mk (a : Int) (h0 : 0 ≤ a) (h1 : a < 256) : ∃ c : UInt8, a = (c.toNat : Int) ∧ strOfNums [a] = mkB [c] := by
  obtain ⟨n, rfl⟩ := Int.eq_ofNat_of_zero_le h0
  refine ⟨UInt8.ofNat n, ?_, by rw [strOfNums_one]; rfl⟩
  rw [UInt8.toNat_ofNat']
  omega
theorem FnExactSplit : FnExactSplitPure := by
  intro s a _ ha
  have ha := wf8 ha
  by_cases hbig : (s.size : Int) > 1048576
  · exact ⟨0, by simp only [laws_FnExactSplit.f]; rw [if_pos hbig]⟩
  obtain ⟨c, hc, hm⟩ := byte_mk a ha.1 ha.2
  have hp := pieces_pc s c a hm
  have hl : (Cuts.pieces s a).length ≤ 4194304 := by
    rw [hp, List.length_map]
    have := pc_length c s.data.toList []
    have e : s.data.toList.length = s.size := by simp
    omega
  have h1 : Ev (fun k => spec_Split.f k s a) (Cuts.pieces s a) := by
    have h := specSplit_l s c (by omega) s.size 0 0 [] (by omega) (by omega) (by simp)
    rw [hp]
    refine Ev.congr (fun k => ?_) (by simpa using h)
    simp only [spec_Split.f, hc]
  obtain ⟨K1, h1⟩ := h1
  obtain ⟨K2, h2⟩ := eqStringS_ev (Cuts.pieces s a) hl
  obtain ⟨K3, h3⟩ := markStringS_ev (Cuts.pieces s a) 1 hl (by omega) (by omega)
  obtain ⟨K4, h4⟩ := heldStringS_ev (Cuts.pieces s a) 1 hl (by omega) (by omega)
  refine ⟨K1 + K2 + K3 + K4, ?_⟩
  have h1 := h1 (K1 + K2 + K3 + K4) (by omega)
  have h2 := h2 (K1 + K2 + K3 + K4) (by omega)
  have h3 := h3 (K1 + K2 + K3 + K4) (by omega)
  have h4 := h4 (K1 + K2 + K3 + K4) (by omega)
  have hi : impl_Split.f (K1 + K2 + K3 + K4) s a = some (Cuts.pieces s a) := by
    simp only [impl_Split.f]
    rw [if_pos (by omega)]
  have e : ¬ ((1 : Int) + (Cuts.pieces s a).length < 0) := by omega
  simp only [laws_FnExactSplit.f, if_neg hbig, h1, h2, h3, h4, hi, Option.bind_some, if_true, e, if_false]
end Go.Proofs.YtjaldondohddpaaDoor.Pure
