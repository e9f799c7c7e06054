/- The statement of laws.FnExactPutNum over numbers and lists alone: at every input it answers true. No condition but that the numbers are those of their kinds and that no slice is longer than a Go slice can be. -/
import Derived.Test.YtahpnabiobemoaaPFnExactPutNumx1
import Derived.Test.YtahpnabiobemoaaBase
set_option linter.unusedVariables false
set_option linter.unusedSimpArgs false
namespace Go.Proofs.Ytahpnabiobemoaa.Pure
open Go.RowKit Go.Proofs.Ytahpnabiobemoaa.PFnExactPutNum Go.Proofs.Ytahpnabiobemoaa.Base Go.Proofs.YtahpnabiobemoaaW.PrintWords Go.Proofs.YtahpnabiobemoaaW.PrintLast Go.Proofs.YtahpnabiobemoaaW.PrintMore
/-- A number's bytes, seven bits each, the low ones first. -/
def putM (n : Nat) : List Int := if n > 127 then (((n % 128 + 128 : Nat) : Int)) :: putM (n / 128) else [(n : Int)]
termination_by n
decreasing_by omega
theorem putM_length (n : Nat) : (putM n).length ≤ n + 1 := by
  induction n using Nat.strongRecOn with
  | ind n ih =>
    rw [putM]
    split
    · have := ih (n / 128) (by omega)
      simp
      omega
    · simp
theorem putM_bytes (n : Nat) : ∀ x ∈ putM n, 0 ≤ x ∧ x < 256 := by
  induction n using Nat.strongRecOn with
  | ind n ih =>
    rw [putM]
    split
    · intro x hx
      rcases List.mem_cons.1 hx with rfl | hx
      · omega
      · exact ih (n / 128) (by omega) x hx
    · intro x hx
      simp at hx
      omega
/-- PutNum: nothing of a number that is below 0 or above the greatest. -/
def putNum (n : Int) : List Int := if 0 ≤ n ∧ n ≤ 2147483647 then putM n.toNat else []
theorem putM_short (n : Nat) (h : n ≤ 2147483647) : (putM n).length ≤ 5 := by
  have h1 : ∀ m, m ≤ 127 → (putM m).length = 1 := by
    intro m hm
    rw [putM, if_neg (by omega)]
    rfl
  have st : ∀ m b c, (∀ m', m' ≤ b → (putM m').length ≤ c) → m / 128 ≤ b → (putM m).length ≤ c + 1 := by
    intro m b c hh hm
    rw [putM]
    split
    · have := hh _ hm
      simp
      omega
    · simp
  have a1 : ∀ m, m ≤ 127 → (putM m).length ≤ 1 := fun m hm => by rw [h1 m hm]; omega
  have a2 : ∀ m, m ≤ 16383 → (putM m).length ≤ 2 := fun m hm => st m 127 1 a1 (by omega)
  have a3 : ∀ m, m ≤ 2097151 → (putM m).length ≤ 3 := fun m hm => st m 16383 2 a2 (by omega)
  have a4 : ∀ m, m ≤ 268435455 → (putM m).length ≤ 4 := fun m hm => st m 2097151 3 a3 (by omega)
  exact st n 268435455 4 a4 (by omega)
theorem putNum_short (n : Int) : (putNum n).length ≤ 5 := by
  unfold putNum
  split
  · exact putM_short _ (by omega)
  · simp
theorem putNum_bytes (n : Int) : ∀ x ∈ putNum n, 0 ≤ x ∧ x < 256 := by
  unfold putNum
  split
  · exact putM_bytes _
  · simp
theorem l1In_eq (x lo hi : Int) : spec_l1In.f x lo hi = some (decide (lo ≤ x ∧ x ≤ hi)) := by
  simp only [spec_l1In.f]
  by_cases h : lo ≤ x
  · rw [if_pos h]; simp [h]
  · rw [if_neg h]; simp [h]
theorem specPutNum_l (n : Nat) (acc : List Int) (h : acc.length + n ≤ 70368744177664) (hn : n ≤ 2147483647) : Ev (fun k => spec_PutNum.l0 k (n : Int) acc) (acc ++ putM n) := by
  induction n using Nat.strongRecOn generalizing acc with
  | ind n ih =>
    by_cases hb : n > 127
    · have := ih (n / 128) (by omega) (acc ++ [((n % 128 + 128 : Nat) : Int)]) (by simp; omega) (by omega)
      rw [putM, if_pos hb]
      rw [List.append_assoc] at this
      refine Ev.step (fun k => ?_) this
      simp only [spec_PutNum.l0]
      rw [if_pos (by omega), if_pos (by omega), Int.tmod_eq_emod_of_nonneg (by omega), w64 (x := (n : Int) % 128 + 128) (by omega) (by omega), Int.tdiv_eq_ediv_of_nonneg (by omega), w64 (by omega) (by omega)]
      congr 2
      congr 1
      omega
    · rw [putM, if_neg hb]
      refine ev_end fun k => ?_
      simp only [spec_PutNum.l0]
      rw [if_neg (by omega), if_pos (by omega), Int.emod_eq_of_lt (by omega) (by omega)]
theorem specPutNum_ev (n : Int) : Ev (fun k => spec_PutNum.f k n) (putNum n) := by
  by_cases h : 0 ≤ n ∧ n ≤ 2147483647
  · obtain ⟨m, rfl⟩ := Int.eq_ofNat_of_zero_le h.1
    have := specPutNum_l m [] (by simp; omega) (by omega)
    refine Ev.congr (fun k => ?_) (by simpa [putNum, h] using this)
    simp [spec_PutNum.f, l1In_eq, h]
  · refine ev_some fun k => ?_
    simp [spec_PutNum.f, l1In_eq, h, putNum]
theorem inRange_eq (x lo hi : Int) : impl_inRange.f x lo hi = some (decide (lo ≤ x ∧ x ≤ hi)) := by
  simp only [impl_inRange.f]
  by_cases h : lo ≤ x
  · rw [if_pos h]; simp [h]
  · rw [if_neg h]; simp [h]
theorem implPutNum_l (n : Nat) (acc : List Int) (h : acc.length + n ≤ 70368744177664) (hn : n ≤ 2147483647) : Ev (fun k => impl_PutNum.l0 k (n : Int) acc) (acc ++ putM n) := by
  induction n using Nat.strongRecOn generalizing acc with
  | ind n ih =>
    by_cases hb : n > 127
    · have := ih (n / 128) (by omega) (acc ++ [((n % 128 + 128 : Nat) : Int)]) (by simp; omega) (by omega)
      rw [putM, if_pos hb]
      rw [List.append_assoc] at this
      refine Ev.step (fun k => ?_) this
      simp only [impl_PutNum.l0]
      rw [if_pos (by omega), if_pos (by omega), Int.tmod_eq_emod_of_nonneg (by omega), w64 (x := 128 + (n : Int) % 128) (by omega) (by omega), Int.tdiv_eq_ediv_of_nonneg (by omega), w64 (by omega) (by omega)]
      congr 2
      congr 1
      omega
    · rw [putM, if_neg hb]
      refine ev_end fun k => ?_
      simp only [impl_PutNum.l0]
      rw [if_neg (by omega), if_pos (by omega), Int.emod_eq_of_lt (by omega) (by omega)]
theorem implPutNum_ev (n : Int) : Ev (fun k => impl_PutNum.f k n) (putNum n) := by
  by_cases h : 0 ≤ n ∧ n ≤ 2147483647
  · obtain ⟨m, rfl⟩ := Int.eq_ofNat_of_zero_le h.1
    have := implPutNum_l m [] (by simp; omega) (by omega)
    refine Ev.congr (fun k => ?_) (by simpa [putNum, h] using this)
    simp [impl_PutNum.f, inRange_eq, h]
  · refine ev_some fun k => ?_
    simp [impl_PutNum.f, inRange_eq, h, putNum]
theorem eqByteS_ev (l : List Int) (h : l.length ≤ 4194304) : Ev (fun k => laws_eqByteS.f k l l) true := by
  have h0 := ev_list0 l (fun k i => laws_eqByteS.l0 k l l i) (fun _ => true)
    (ev_end fun k => by simp only [laws_eqByteS.l0]; rw [if_neg (by omega)])
    (fun i x t hi _ hx ih => Ev.step (fun k => by
      simp only [laws_eqByteS.l0]
      rw [if_pos (by omega), if_pos (by omega), if_pos (by omega), w64_succ (by omega)]
      try simp) ih)
  refine Ev.congr (fun k => ?_) h0
  simp [laws_eqByteS.f]
/-- What is written into bytes one by one, counting up. -/
def ups (m : Int) : List Int → List Int
  | [] => []
  | _ :: t => (m % 256) :: ups (m + 1) t
theorem ups_length : ∀ (l : List Int) (m : Int), (ups m l).length = l.length := by
  intro l
  induction l with
  | nil => intro m; rfl
  | cons x t ih => intro m; simp [ups, ih]
def setUps (acc : List Int) (i : Nat) (m : Int) : List Int → List Int
  | [] => acc
  | _ :: t => setUps (acc.set i (m % 256)) (i + 1) (m + 1) t
theorem setUps_eq : ∀ (t acc : List Int) (i : Nat) (m : Int), i + t.length = acc.length → setUps acc i m t = acc.take i ++ ups m t := by
  intro t
  induction t with
  | nil => intro acc i m h; simp at h; simp [setUps, ups, h]
  | cons x t ih =>
    intro acc i m h
    simp at h
    rw [setUps, ih _ _ _ (by simp; omega)]
    have e : (acc.set i (m % 256)).take (i + 1) = acc.take i ++ [m % 256] := by
      rw [List.take_succ_eq_append_getElem (by simp; omega)]
      simp [List.take_set_of_le]
    rw [e]
    simp [ups]
theorem markByteS_ev (l : List Int) (m : Int) (h : l.length ≤ 4194304) (h0 : 0 ≤ m) (h1 : m ≤ 1152921504606846976) : Ev (fun k => laws_markByteS.f k l m) (m + l.length, ups m l) := by
  have hh := ev_list l (fun k (s : Nat × Int × List Int) i => laws_markByteS.l0 k s.2.2 s.2.1 i) (fun s t => (s.2.1 + t.length, setUps s.2.2 s.1 s.2.1 t)) (fun i s => s.1 = i ∧ s.2.1 = m + i ∧ s.2.2.length = l.length)
    (fun s hI => by
      obtain ⟨j, n, acc⟩ := s
      obtain ⟨h2, h3, h4⟩ := hI
      dsimp only at h2 h3 h4 ⊢
      refine ev_end fun k => ?_
      simp only [laws_markByteS.l0]
      rw [if_neg (by omega)]
      simp [setUps])
    (fun i s x t hI hi _ hx ih => by
      obtain ⟨j, n, acc⟩ := s
      obtain ⟨h2, h3, h4⟩ := hI
      dsimp only at h2 h3 h4 ih ⊢
      subst h2
      have := ih (j + 1, n + 1, acc.set j (n % 256)) ⟨rfl, by dsimp only; omega, by simp [h4]⟩
      have e : (n + ((x :: t).length : Nat), setUps acc j n (x :: t)) = (n + 1 + (t.length : Nat), setUps (acc.set j (n % 256)) (j + 1) (n + 1) t) := by
        simp only [setUps, List.length_cons]
        congr 1
        omega
      rw [e]
      refine Ev.step (fun k => ?_) this
      simp only [laws_markByteS.l0]
      rw [if_pos (by omega), if_pos (by omega), w64_succ (by omega), w64 (by omega) (by omega)]
      simp)
    (0, m, l) ⟨rfl, by simp, rfl⟩
  dsimp only at hh
  rw [setUps_eq _ _ _ _ (by simp)] at hh
  simpa [laws_markByteS.f] using hh
theorem heldByteS_ev (l : List Int) (m : Int) (h : l.length ≤ 4194304) (h0 : 0 ≤ m) (h1 : m ≤ 1152921504606846976) : Ev (fun k => laws_heldByteS.f k (ups m l) m) (m + l.length) := by
  have key : ∀ (d i : Nat) (n : Int) (acc : List Int), i + d = acc.length → acc.length = l.length → n = m + i → (∃ t : List Int, acc.drop i = ups n t ∧ t.length = d) → Ev (fun k => laws_heldByteS.l0 k acc n (i : Int)) (n + d) := by
    intro d
    induction d with
    | zero =>
      intro i n acc hi ha hn _
      refine ev_end fun k => ?_
      simp only [laws_heldByteS.l0]
      rw [if_neg (by omega)]
      simp
    | succ d ih =>
      intro i n acc hi ha hn ht
      obtain ⟨t, ht, htl⟩ := ht
      obtain ⟨x, t, rfl⟩ : ∃ x t', t = x :: t' := by
        cases t with
        | nil => simp at htl
        | cons x t => exact ⟨x, t, rfl⟩
      simp at htl
      have hlt : i < acc.length := by omega
      rw [List.drop_eq_getElem_cons hlt, ups] at ht
      injection ht with e1 e2
      have := ih (i + 1) (n + 1) acc (by omega) ha (by omega) ⟨t, e2, htl⟩
      have e : n + ((d + 1 : Nat) : Int) = n + 1 + (d : Int) := by omega
      rw [e]
      refine Ev.step (fun k => ?_) this
      simp only [laws_heldByteS.l0]
      rw [if_pos (by omega), if_pos (by omega), rd_at (List.getElem?_eq_getElem hlt), if_pos e1, w64_succ (by omega), w64 (by omega) (by omega)]
  have := key l.length 0 m (ups m l) (by simp [ups_length]) (ups_length _ _) (by simp) ⟨l, by simp, rfl⟩
  simpa [laws_heldByteS.f] using this
theorem FnExactPutNum : laws_FnExactPutNum.Pure := by
  intro n _
  have hl := putNum_short n
  obtain ⟨K1, h1⟩ := specPutNum_ev n
  obtain ⟨K2, h2⟩ := implPutNum_ev n
  obtain ⟨K3, h3⟩ := eqByteS_ev (putNum n) (by omega)
  obtain ⟨K4, h4⟩ := markByteS_ev (putNum n) 1 (by omega) (by omega) (by omega)
  obtain ⟨K5, h5⟩ := heldByteS_ev (putNum n) 1 (by omega) (by omega) (by omega)
  refine ⟨K1 + K2 + K3 + K4 + K5, ?_⟩
  have e : ¬ ((1 : Int) + (putNum n).length < 0) := by omega
  simp (disch := omega) only [laws_FnExactPutNum.f, h1, h2, h3, h4, h5, Option.bind_some, if_true, e, if_false]
end Go.Proofs.Ytahpnabiobemoaa.Pure
