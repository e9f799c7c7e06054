/- The statement of laws.FnExactAllBytes over numbers and lists alone: at every input it answers true. No condition but that the numbers are those of their kinds and that no slice is longer than a Go slice can be. -/
import Derived.Test.YtaoipjdmmamkmaaPFnExactAllBytesx7
import Derived.Test.YtaoipjdmmamkmaaBase
import Derived.Laws.BitsLemmas
set_option linter.unusedVariables false
set_option linter.unusedSimpArgs false
namespace Go.Proofs.Ytaoipjdmmamkmaa.Pure
open Go.RowKit Go.Proofs.Ytaoipjdmmamkmaa.PFnExactAllBytes Go.Proofs.Ytaoipjdmmamkmaa.Base Go.Proofs.YtaoipjdmmamkmaaW.PrintWords Go.Proofs.YtaoipjdmmamkmaaW.PrintLast Go.Proofs.YtaoipjdmmamkmaaW.PrintMore
def FnExactAllBytesPure : Prop := ∀ (l0 : List (S88)), (l0.length ≤ maxLen ∧ ∀ x ∈ l0, ((Lit.int .i64 x.f0).wf = true) ∧ ((Lit.int .i64 x.f1).wf = true) ∧ (((Lit.int .i64 x.f2.f0).wf = true) ∧ ((Lit.int .i64 x.f2.f1).wf = true) ∧ ((Lit.int .i64 x.f2.f2).wf = true) ∧ ((Lit.int .i64 x.f2.f3).wf = true)) ∧ ((Lit.int .i64 x.f3).wf = true) ∧ (True)) → ∃ k, laws_FnExactAllBytes.f k l0 = some true
abbrev IN := S84
theorem rdIN {l : List IN} {i : Nat} {x : IN} (h : l[i]? = some x) : rd_T84 l (i : Int) = x := getD_at h
def vecOk (r c b p : Int) : Bool := decide (1 ≤ r ∧ r ≤ 9) && (decide (1 ≤ b ∧ b ≤ 9) && (decide (r ≤ b) && (decide (0 ≤ c ∧ c ≤ 20) && (((c == 0) == (r == b)) && decide (0 ≤ p ∧ p ≤ 3)))))
theorem vecOk_iff (r c b p : Int) : vecOk r c b p = true ↔ (1 ≤ r ∧ r ≤ 9) ∧ (1 ≤ b ∧ b ≤ 9) ∧ r ≤ b ∧ (0 ≤ c ∧ c ≤ 20) ∧ (c = 0 ↔ r = b) ∧ 0 ≤ p ∧ p ≤ 3 := by
  unfold vecOk
  have e1 : (c == 0) = decide (c = 0) := by by_cases h : c = 0 <;> simp [h]
  have e2 : (r == b) = decide (r = b) := by by_cases h : r = b <;> simp [h]
  rw [e1, e2]
  by_cases h1 : c = 0 <;> by_cases h2 : r = b <;> simp [h1, h2]
def inOk (k p r c b q h : Int) (u : Bool) : Bool :=
  if k = 1 then decide (0 ≤ p ∧ p ≤ 3) && vecOk r c b q && decide (0 ≤ h ∧ h ≤ 8) && !u
  else if k = 3 then decide (0 ≤ p ∧ p ≤ 3 ∧ r = 0 ∧ c = 0 ∧ b = 0 ∧ q = 0 ∧ h = 0)
  else decide (k = 2 ∧ p = 0 ∧ r = 0 ∧ c = 0 ∧ b = 0 ∧ q = 0 ∧ h = 0) && !u
/-- The two running sums. -/
def sumM (x y : Int) : List Int → Int
  | [] => y * 65536 + x
  | b :: t => sumM ((x + b) % 65521) ((y + (x + b) % 65521) % 65521) t
def sumOf (l : List Int) : Int := sumM 1 0 l
theorem sumM_range : ∀ (l : List Int) (x y : Int), 0 ≤ x → x < 65521 → 0 ≤ y → y < 65521 → 0 ≤ sumM x y l ∧ sumM x y l < 4294967296 := by
  intro l
  induction l with
  | nil => intro x y h0 h1 h2 h3; simp only [sumM]; omega
  | cons b t ih => intro x y h0 h1 h2 h3; simp only [sumM]; exact ih _ _ (by omega) (by omega) (by omega) (by omega)
theorem sumOf_range (l : List Int) : 0 ≤ sumOf l ∧ sumOf l < 4294967296 := sumM_range l 1 0 (by omega) (by omega) (by omega) (by omega)
def four (s : Int) : List Int := [s % 256, s / 256 % 256, s / 65536 % 256, s / 16777216 % 256]
theorem four_bytes (s : Int) : ∀ x ∈ four s, 0 ≤ x ∧ x < 256 := by
  intro x hx
  simp only [four, List.mem_cons, List.not_mem_nil, or_false] at hx
  omega
def summedM (l : List Int) : List Int := l ++ four (sumOf l)
/-- A number's bytes, seven bits each, the low ones first. -/
def putM (n : Nat) : List Int := if n > 127 then (((n % 128 + 128 : Nat) : Int)) :: putM (n / 128) else [(n : Int)]
termination_by n
decreasing_by omega
theorem putM_length (n : Nat) : (putM n).length ≤ n + 1 := by
  induction n using Nat.strongRecOn with
  | ind n ih =>
    rw [putM]
    split
    · have := ih (n / 128) (by omega)
      simp
      omega
    · simp
theorem putM_bytes (n : Nat) : ∀ x ∈ putM n, 0 ≤ x ∧ x < 256 := by
  induction n using Nat.strongRecOn with
  | ind n ih =>
    rw [putM]
    split
    · intro x hx
      rcases List.mem_cons.1 hx with rfl | hx
      · omega
      · exact ih (n / 128) (by omega) x hx
    · intro x hx
      simp at hx
      omega
/-- PutNum: nothing of a number that is below 0 or above the greatest. -/
def putNum (n : Int) : List Int := if 0 ≤ n ∧ n ≤ 2147483647 then putM n.toNat else []
theorem putM_short (n : Nat) (h : n ≤ 2147483647) : (putM n).length ≤ 5 := by
  have h1 : ∀ m, m ≤ 127 → (putM m).length = 1 := by
    intro m hm
    rw [putM, if_neg (by omega)]
    rfl
  have st : ∀ m b c, (∀ m', m' ≤ b → (putM m').length ≤ c) → m / 128 ≤ b → (putM m).length ≤ c + 1 := by
    intro m b c hh hm
    rw [putM]
    split
    · have := hh _ hm
      simp
      omega
    · simp
  have a1 : ∀ m, m ≤ 127 → (putM m).length ≤ 1 := fun m hm => by rw [h1 m hm]; omega
  have a2 : ∀ m, m ≤ 16383 → (putM m).length ≤ 2 := fun m hm => st m 127 1 a1 (by omega)
  have a3 : ∀ m, m ≤ 2097151 → (putM m).length ≤ 3 := fun m hm => st m 16383 2 a2 (by omega)
  have a4 : ∀ m, m ≤ 268435455 → (putM m).length ≤ 4 := fun m hm => st m 2097151 3 a3 (by omega)
  exact st n 268435455 4 a4 (by omega)
theorem putNum_short (n : Int) : (putNum n).length ≤ 5 := by
  unfold putNum
  split
  · exact putM_short _ (by omega)
  · simp
theorem putNum_bytes (n : Int) : ∀ x ∈ putNum n, 0 ≤ x ∧ x < 256 := by
  unfold putNum
  split
  · exact putM_bytes _
  · simp
def putNumsM (l : List Int) : List Int := l.flatMap putNum
theorem putNumsM_length (l : List Int) : (putNumsM l).length ≤ 5 * l.length := by
  induction l with
  | nil => simp [putNumsM]
  | cons x t ih =>
    have h1 := putNum_short x
    simp only [putNumsM, List.flatMap_cons, List.length_append, List.length_cons] at *
    omega
theorem putNumsM_bytes (l : List Int) : ∀ x ∈ putNumsM l, 0 ≤ x ∧ x < 256 := by
  intro x hx
  obtain ⟨n, _, hn⟩ := List.mem_flatMap.1 hx
  exact putNum_bytes n x hn
def inBody (k p r c b q h : Int) (u : Bool) : List Int := putNumsM [k, p] ++ (if k = 1 then putNumsM [r, c, b, q, h] else if k = 3 then [if u then 1 else 0] else [])
def inBytesM (k p r c b q h : Int) (u : Bool) : List Int := if inOk k p r c b q h u then summedM (inBody k p r c b q h u) else []
theorem inBody_length (k p r c b q h : Int) (u : Bool) : (inBody k p r c b q h u).length ≤ 35 := by
  have h1 := putNumsM_length [k, p]
  have h2 := putNumsM_length [r, c, b, q, h]
  unfold inBody
  rw [List.length_append]
  simp only [List.length_cons, List.length_nil] at h1 h2
  split
  · omega
  · split <;> simp <;> omega
theorem inBody_bytes (k p r c b q h : Int) (u : Bool) : ∀ x ∈ inBody k p r c b q h u, 0 ≤ x ∧ x < 256 := by
  intro x hx
  unfold inBody at hx
  rcases List.mem_append.1 hx with hx | hx
  · exact putNumsM_bytes _ x hx
  · split at hx
    · exact putNumsM_bytes _ x hx
    · split at hx
      · simp only [List.mem_cons, List.not_mem_nil, or_false] at hx
        subst hx
        cases u <;> simp
      · simp at hx
theorem inBytesM_length (k p r c b q h : Int) (u : Bool) : (inBytesM k p r c b q h u).length ≤ 39 := by
  have := inBody_length k p r c b q h u
  unfold inBytesM
  split
  · simp [summedM, four]
    omega
  · simp
def oneB (x : IN) : List Int := inBytesM x.f0 x.f1 x.f2.f0 x.f2.f1 x.f2.f2 x.f2.f3 x.f3 x.f4
def allB : List IN → List Int
  | [] => []
  | x :: t => oneB x ++ allB t
theorem allB_length : ∀ l : List IN, (allB l).length ≤ 39 * l.length := by
  intro l
  induction l with
  | nil => simp [allB]
  | cons x t ih =>
    have := inBytesM_length x.f0 x.f1 x.f2.f0 x.f2.f1 x.f2.f2 x.f2.f3 x.f3 x.f4
    simp only [allB, oneB, List.length_append, List.length_cons]
    omega
theorem l1In_eq (x lo hi : Int) : spec_l1In.f x lo hi = some (decide (lo ≤ x ∧ x ≤ hi)) := by
  simp only [spec_l1In.f]
  by_cases h : lo ≤ x
  · rw [if_pos h]; simp [h]
  · rw [if_neg h]; simp [h]
theorem specVecOk_eq (r c b p : Int) : spec_VecOk.f r c b p = some (vecOk r c b p) := by
  simp only [spec_VecOk.f, l1In_eq, Option.bind_some, vecOk]
  by_cases h1 : 1 ≤ r ∧ r ≤ 9 <;> by_cases h2 : 1 ≤ b ∧ b ≤ 9 <;> by_cases h3 : r ≤ b <;> by_cases h4 : 0 ≤ c ∧ c ≤ 20 <;> by_cases h5 : 0 ≤ p ∧ p ≤ 3 <;> simp [h1, h2, h3, h4, h5]
  all_goals (first | (cases (c == 0) <;> cases (r == b) <;> rfl) | omega)
theorem specInOk_eq (k p r c b q h : Int) (u : Bool) : spec_InOk.f k p r c b q h u = some (inOk k p r c b q h u) := by
  simp only [spec_InOk.f, l1In_eq, specVecOk_eq, Option.bind_some, inOk]
  by_cases h1 : k = 1
  · simp only [h1, if_true]
    by_cases a1 : 0 ≤ p ∧ p ≤ 3 <;> by_cases a3 : 0 ≤ h ∧ h ≤ 8 <;> cases vecOk r c b q <;> simp [a1, a3]
  · by_cases h3 : k = 3
    · by_cases a1 : 0 ≤ p <;> by_cases a2 : p ≤ 3 <;> by_cases r0 : r = 0 <;> by_cases c0 : c = 0 <;> by_cases b0 : b = 0 <;> by_cases q0 : q = 0 <;> by_cases hh : h = 0 <;> simp_all
      all_goals (first | (split <;> simp <;> omega) | omega)
    · by_cases h2 : k = 2
      · by_cases p0 : p = 0 <;> by_cases r0 : r = 0 <;> by_cases c0 : c = 0 <;> by_cases b0 : b = 0 <;> by_cases q0 : q = 0 <;> by_cases hh : h = 0 <;> cases u <;> simp_all
      · simp [h1, h2, h3]
theorem specPutNum_l (n : Nat) (acc : List Int) (h : acc.length + n ≤ 70368744177664) (hn : n ≤ 2147483647) : Ev (fun k => spec_PutNum.l0 k (n : Int) acc) (acc ++ putM n) := by
  induction n using Nat.strongRecOn generalizing acc with
  | ind n ih =>
    by_cases hb : n > 127
    · have := ih (n / 128) (by omega) (acc ++ [((n % 128 + 128 : Nat) : Int)]) (by simp; omega) (by omega)
      rw [putM, if_pos hb]
      rw [List.append_assoc] at this
      refine Ev.step (fun k => ?_) this
      simp only [spec_PutNum.l0]
      rw [if_pos (by omega), if_pos (by omega), Int.tmod_eq_emod_of_nonneg (by omega), w64 (x := (n : Int) % 128 + 128) (by omega) (by omega), Int.tdiv_eq_ediv_of_nonneg (by omega), w64 (by omega) (by omega)]
      congr 2
      congr 1
      omega
    · rw [putM, if_neg hb]
      refine ev_end fun k => ?_
      simp only [spec_PutNum.l0]
      rw [if_neg (by omega), if_pos (by omega), Int.emod_eq_of_lt (by omega) (by omega)]
theorem specPutNum_ev (n : Int) : Ev (fun k => spec_PutNum.f k n) (putNum n) := by
  by_cases h : 0 ≤ n ∧ n ≤ 2147483647
  · obtain ⟨m, rfl⟩ := Int.eq_ofNat_of_zero_le h.1
    have := specPutNum_l m [] (by simp; omega) (by omega)
    refine Ev.congr (fun k => ?_) (by simpa [putNum, h] using this)
    simp [spec_PutNum.f, l1In_eq, h]
  · refine ev_some fun k => ?_
    simp [spec_PutNum.f, l1In_eq, h, putNum]
theorem specL9Nums_ev (l : List Int) (h : l.length ≤ 4194304) : Ev (fun k => spec_l9Nums.f k l) (putNumsM l) := by
  have := ev_list l (fun k (acc : List Int) i => spec_l9Nums.l0 k l acc i) (fun acc t => acc ++ putNumsM t) (fun i acc => acc.length ≤ 5 * i)
    (fun acc hI => ev_end fun k => by simp only [spec_l9Nums.l0]; rw [if_neg (by omega)]; simp [putNumsM])
    (fun i acc x t hI hi _ hx ih => by
      have hs := putNum_short x
      have e : acc ++ putNumsM (x :: t) = (acc ++ putNum x) ++ putNumsM t := by simp [putNumsM]
      rw [e]
      refine Ev.step (f := fun k => (spec_PutNum.f k x).bind fun t169 => (if acc.length + t169.length < 140737488355328 then (spec_l9Nums.l0 k l (acc ++ t169) ((i + 1 : Nat) : Int)) else (none))) (fun k => ?_) (Ev.bind (specPutNum_ev x) ?_)
      · simp only [spec_l9Nums.l0]
        rw [if_pos (by omega), if_pos (by omega), rd_at hx, w64_succ (by omega)]
      · refine Ev.congr (fun k => ?_) (ih (acc ++ putNum x) (by simp; omega))
        rw [if_pos (by omega)])
    [] (by simp)
  simpa [spec_l9Nums.f] using this
theorem specSumOf_ev (l : List Int) (h : l.length ≤ 4194304) (hb : ∀ x ∈ l, 0 ≤ x ∧ x < 256) : Ev (fun k => spec_SumOf.f k l) (sumOf l) := by
  have hh := ev_list l (fun k (s : Int × Int) i => spec_SumOf.l0 k l s.1 s.2 i) (fun s t => sumM s.1 s.2 t) (fun _ s => 0 ≤ s.1 ∧ s.1 < 65521 ∧ 0 ≤ s.2 ∧ s.2 < 65521)
    (fun s hI => by
      obtain ⟨x, y⟩ := s
      obtain ⟨a1, a2, a3, a4⟩ := hI
      dsimp only at a1 a2 a3 a4 ⊢
      refine ev_end fun k => ?_
      simp only [spec_SumOf.l0]
      rw [if_neg (by omega), w64 (x := y * 65536) (by omega) (by omega), w64 (by omega) (by omega)]
      rfl)
    (fun i s b t hI hi _ hx ih => by
      obtain ⟨x, y⟩ := s
      obtain ⟨a1, a2, a3, a4⟩ := hI
      dsimp only at a1 a2 a3 a4 ih ⊢
      have hbb := hb b (List.mem_of_getElem? hx)
      refine Ev.step (fun k => ?_) (ih ((x + b) % 65521, (y + (x + b) % 65521) % 65521) ⟨by dsimp only; omega, by dsimp only; omega, by dsimp only; omega, by dsimp only; omega⟩)
      simp only [spec_SumOf.l0]
      rw [if_pos (by omega), if_pos (by omega), rd_at hx, w64_succ (by omega), w64 (x := b) (by omega) (by omega), w64 (x := x + b) (by omega) (by omega), Int.tmod_eq_emod_of_nonneg (by omega), w64 (by omega) (by omega), Int.tmod_eq_emod_of_nonneg (by omega)])
    (1, 0) ⟨by simp, by simp, by simp, by simp⟩
  exact hh
theorem i64_wraps' (n : Int) (h0 : 0 ≤ n) (h1 : n < 2 ^ 62) : IntKind.i64.wrap n = n := by
  rw [IntKind.wrap_i64]
  omega
theorem and_255 (x : Int) (h0 : 0 ≤ x) (h1 : x < 4294967296) : Go.bits .and .i64 x 255 = x % 256 := by
  have := Go.bits_mask .i64 62 (by decide) i64_wraps' 8 (by decide) x h0 (by omega)
  simpa using this
theorem l2Sum_eq (s : Int) (h0 : 0 ≤ s) (h1 : s < 4294967296) : spec_l2Sum.f s = some (four s) := by
  simp only [spec_l2Sum.f, four]
  rw [and_255 s h0 h1, and_255 (s / 256) (by omega) (by omega), and_255 (s / 65536) (by omega) (by omega), and_255 (s / 16777216) (by omega) (by omega)]
  simp
theorem putNum_bit (u : Bool) : putNumsM [if u then 1 else 0] = [if u then 1 else 0] := by
  cases u <;> simp [putNumsM, putNum, putM]
theorem specInBytes_ev (k p r c b q h : Int) (u : Bool) : Ev (fun n => spec_InBytes.f n k p r c b q h u) (inBytesM k p r c b q h u) := by
  simp only [spec_InBytes.f, specInOk_eq, Option.bind_some, inBytesM]
  by_cases ho : inOk k p r c b q h u = true
  · have hl := inBody_length k p r c b q h u
    have hy := inBody_bytes k p r c b q h u
    simp only [ho, if_true]
    refine Ev.bind (specL9Nums_ev [k, p] (by simp)) ?_
    have fin : ∀ body, body.length ≤ 35 → (∀ x ∈ body, 0 ≤ x ∧ x < 256) → Ev (fun n => (spec_SumOf.f n body).bind fun t159 => ((spec_l2Sum.f t159).bind fun t160 => (if body.length + t160.length < 140737488355328 then (some (body ++ t160)) else (none)))) (summedM body) := by
      intro body h1 h2
      refine Ev.bind (specSumOf_ev body (by omega) h2) (ev_some fun n => ?_)
      rw [l2Sum_eq _ (sumOf_range _).1 (sumOf_range _).2]
      simp only [Option.bind_some]
      rw [if_pos (by simp [four]; omega)]
      rfl
    by_cases k1 : k = 1
    · have eb : inBody k p r c b q h u = putNumsM [k, p] ++ putNumsM [r, c, b, q, h] := by unfold inBody; rw [if_pos k1]
      rw [eb] at hl hy ⊢
      simp only [if_pos k1]
      refine Ev.bind (specL9Nums_ev [r, c, b, q, h] (by simp)) ?_
      have e : (putNumsM [k, p]).length + (putNumsM [r, c, b, q, h]).length < 140737488355328 := by rw [List.length_append] at hl; omega
      simp only [e, if_true]
      exact fin _ hl hy
    · by_cases k3 : k = 3
      · have eb : inBody k p r c b q h u = putNumsM [k, p] ++ [if u then 1 else 0] := by unfold inBody; rw [if_neg k1, if_pos k3]
        rw [eb] at hl hy ⊢
        have e1 : spec_l1Bit.f u = some (if u then 1 else 0) := by cases u <;> rfl
        simp only [if_neg k1, if_pos k3, e1, Option.bind_some]
        refine Ev.bind (specL9Nums_ev [if u then 1 else 0] (by simp)) ?_
        rw [putNum_bit]
        have e : (putNumsM [k, p]).length + [if u then (1 : Int) else 0].length < 140737488355328 := by rw [List.length_append] at hl; omega
        simp only [e, if_true]
        exact fin _ hl hy
      · have eb : inBody k p r c b q h u = putNumsM [k, p] := by unfold inBody; rw [if_neg k1, if_neg k3]; simp
        rw [eb] at hl hy ⊢
        simp only [if_neg k1, if_neg k3]
        exact fin _ hl hy
  · refine ev_some fun n => ?_
    simp [ho]
theorem specAllBytes_ev (l : List IN) (h : l.length ≤ 4194304) : Ev (fun k => spec_AllBytes.f k l) (allB l) := by
  have := ev_list l (fun k (acc : List Int) i => spec_AllBytes.l0 k l acc i) (fun acc t => acc ++ allB t) (fun i acc => acc.length ≤ 39 * i)
    (fun acc hI => ev_end fun k => by simp only [spec_AllBytes.l0]; rw [if_neg (by omega)]; simp [allB])
    (fun i acc x t hI hi _ hx ih => by
      have hl := inBytesM_length x.f0 x.f1 x.f2.f0 x.f2.f1 x.f2.f2 x.f2.f3 x.f3 x.f4
      have e : acc ++ allB (x :: t) = (acc ++ oneB x) ++ allB t := by simp [allB]
      rw [e]
      refine Ev.step (f := fun k => (spec_InBytes.f k x.f0 x.f1 x.f2.f0 x.f2.f1 x.f2.f2 x.f2.f3 x.f3 x.f4).bind fun t190 => (if acc.length + t190.length < 140737488355328 then (spec_AllBytes.l0 k l (acc ++ t190) ((i + 1 : Nat) : Int)) else (none))) (fun k => ?_) (Ev.bind (specInBytes_ev _ _ _ _ _ _ _ _) ?_)
      · simp only [spec_AllBytes.l0]
        rw [if_pos (by omega), if_pos (by omega), rdIN hx, w64_succ (by omega)]
      · simp only [if_pos (show acc.length + (inBytesM x.f0 x.f1 x.f2.f0 x.f2.f1 x.f2.f2 x.f2.f3 x.f3 x.f4).length < 140737488355328 by omega)]
        exact ih (acc ++ oneB x) (by simp only [List.length_append, oneB]; omega))
    [] (by simp)
  simpa [spec_AllBytes.f] using this
theorem inRange_eq (x lo hi : Int) : impl_inRange.f x lo hi = some (decide (lo ≤ x ∧ x ≤ hi)) := by
  simp only [impl_inRange.f]
  by_cases h : lo ≤ x
  · rw [if_pos h]; simp [h]
  · rw [if_neg h]; simp [h]
theorem isPort_eq (x : Int) : impl_isPort.f x = some (decide (0 ≤ x ∧ x ≤ 3)) := by simp [impl_isPort.f, inRange_eq]
theorem implVecOk_eq (r c b p : Int) : impl_VecOk.f r c b p = some (vecOk r c b p) := by
  simp only [impl_VecOk.f, inRange_eq, isPort_eq, Option.bind_some, vecOk]
  by_cases h1 : 1 ≤ r ∧ r ≤ 9 <;> by_cases h2 : 1 ≤ b ∧ b ≤ 9 <;> by_cases h3 : r ≤ b <;> by_cases h4 : 0 ≤ c ∧ c ≤ 20 <;> by_cases h5 : 0 ≤ p ∧ p ≤ 3 <;> simp [h1, h2, h3, h4, h5]
  all_goals (first | (cases (c == 0) <;> cases (r == b) <;> rfl) | omega)
theorem isHops_eq (x : Int) : impl_isHops.f x = some (decide (0 ≤ x ∧ x ≤ 8)) := by simp [impl_isHops.f, inRange_eq]
theorem implInOk_eq (k p r c b q h : Int) (u : Bool) : impl_InOk.f k p r c b q h u = some (inOk k p r c b q h u) := by
  simp only [impl_InOk.f, isPort_eq, isHops_eq, implVecOk_eq, Option.bind_some, inOk]
  by_cases h1 : k = 1
  · simp only [h1, if_true]
    by_cases a1 : 0 ≤ p ∧ p ≤ 3 <;> by_cases a3 : 0 ≤ h ∧ h ≤ 8 <;> cases vecOk r c b q <;> simp [a1, a3]
  · by_cases h3 : k = 3
    · by_cases a1 : 0 ≤ p <;> by_cases a2 : p ≤ 3 <;> by_cases r0 : r = 0 <;> by_cases c0 : c = 0 <;> by_cases b0 : b = 0 <;> by_cases q0 : q = 0 <;> by_cases hh : h = 0 <;> simp_all
      all_goals (first | (split <;> simp <;> omega) | omega)
    · by_cases h2 : k = 2
      · by_cases p0 : p = 0 <;> by_cases r0 : r = 0 <;> by_cases c0 : c = 0 <;> by_cases b0 : b = 0 <;> by_cases q0 : q = 0 <;> by_cases hh : h = 0 <;> cases u <;> simp_all
      · simp [h1, h2, h3]
theorem implPutNum_l (n : Nat) (acc : List Int) (h : acc.length + n ≤ 70368744177664) (hn : n ≤ 2147483647) : Ev (fun k => impl_PutNum.l0 k (n : Int) acc) (acc ++ putM n) := by
  induction n using Nat.strongRecOn generalizing acc with
  | ind n ih =>
    by_cases hb : n > 127
    · have := ih (n / 128) (by omega) (acc ++ [((n % 128 + 128 : Nat) : Int)]) (by simp; omega) (by omega)
      rw [putM, if_pos hb]
      rw [List.append_assoc] at this
      refine Ev.step (fun k => ?_) this
      simp only [impl_PutNum.l0]
      rw [if_pos (by omega), if_pos (by omega), Int.tmod_eq_emod_of_nonneg (by omega), w64 (x := 128 + (n : Int) % 128) (by omega) (by omega), Int.tdiv_eq_ediv_of_nonneg (by omega), w64 (by omega) (by omega)]
      congr 2
      congr 1
      omega
    · rw [putM, if_neg hb]
      refine ev_end fun k => ?_
      simp only [impl_PutNum.l0]
      rw [if_neg (by omega), if_pos (by omega), Int.emod_eq_of_lt (by omega) (by omega)]
theorem implPutNum_ev (n : Int) : Ev (fun k => impl_PutNum.f k n) (putNum n) := by
  by_cases h : 0 ≤ n ∧ n ≤ 2147483647
  · obtain ⟨m, rfl⟩ := Int.eq_ofNat_of_zero_le h.1
    have := implPutNum_l m [] (by simp; omega) (by omega)
    refine Ev.congr (fun k => ?_) (by simpa [putNum, h] using this)
    simp [impl_PutNum.f, inRange_eq, h]
  · refine ev_some fun k => ?_
    simp [impl_PutNum.f, inRange_eq, h, putNum]
theorem implPutNums_ev (b l : List Int) (h : l.length ≤ 4194304) (hb : b.length ≤ 4194304) : Ev (fun k => impl_putNums.f k b l) (b ++ putNumsM l) := by
  have := ev_list l (fun k (acc : List Int) i => impl_putNums.l0 k acc l (l.length : Int) i) (fun acc t => acc ++ putNumsM t) (fun i acc => acc.length ≤ b.length + 5 * i)
    (fun acc hI => ev_end fun k => by simp only [impl_putNums.l0]; rw [if_neg (by omega)]; simp [putNumsM])
    (fun i acc x t hI hi _ hx ih => by
      have hs := putNum_short x
      have e : acc ++ putNumsM (x :: t) = (acc ++ putNum x) ++ putNumsM t := by simp [putNumsM]
      rw [e]
      refine Ev.step (f := fun k => (impl_PutNum.f k x).bind fun t169 => (if acc.length + t169.length < 140737488355328 then (impl_putNums.l0 k (acc ++ t169) l (l.length : Int) ((i + 1 : Nat) : Int)) else (none))) (fun k => ?_) (Ev.bind (implPutNum_ev x) ?_)
      · simp only [impl_putNums.l0]
        rw [if_pos (by omega), if_pos (by omega), if_pos (by omega), rd_at hx, w64_succ (by omega)]
      · refine Ev.congr (fun k => ?_) (ih (acc ++ putNum x) (by simp; omega))
        rw [if_pos (by omega)])
    b (by omega)
  simpa [impl_putNums.f] using this
theorem implSumOf_ev (l : List Int) (h : l.length ≤ 4194304) (hb : ∀ x ∈ l, 0 ≤ x ∧ x < 256) : Ev (fun k => impl_SumOf.f k l) (sumOf l) := by
  have hh := ev_list l (fun k (s : Int × Int) i => impl_SumOf.l0 k s.1 s.2 l (l.length : Int) i) (fun s t => sumM s.1 s.2 t) (fun _ s => 0 ≤ s.1 ∧ s.1 < 65521 ∧ 0 ≤ s.2 ∧ s.2 < 65521)
    (fun s hI => by
      obtain ⟨x, y⟩ := s
      obtain ⟨a1, a2, a3, a4⟩ := hI
      dsimp only at a1 a2 a3 a4 ⊢
      refine ev_end fun k => ?_
      simp only [impl_SumOf.l0]
      rw [if_neg (by omega), w64 (x := y * 65536) (by omega) (by omega), w64 (by omega) (by omega)]
      rfl)
    (fun i s b t hI hi _ hx ih => by
      obtain ⟨x, y⟩ := s
      obtain ⟨a1, a2, a3, a4⟩ := hI
      dsimp only at a1 a2 a3 a4 ih ⊢
      have hbb := hb b (List.mem_of_getElem? hx)
      refine Ev.step (fun k => ?_) (ih ((x + b) % 65521, (y + (x + b) % 65521) % 65521) ⟨by dsimp only; omega, by dsimp only; omega, by dsimp only; omega, by dsimp only; omega⟩)
      simp only [impl_SumOf.l0]
      rw [if_pos (by omega), if_pos (by omega), if_pos (by omega), rd_at hx, w64_succ (by omega), w64 (x := b) (by omega) (by omega), w64 (x := x + b) (by omega) (by omega), Int.tmod_eq_emod_of_nonneg (by omega), w64 (by omega) (by omega), Int.tmod_eq_emod_of_nonneg (by omega)])
    (1, 0) ⟨by simp, by simp, by simp, by simp⟩
  exact hh
theorem implSummed_ev (l : List Int) (h : l.length ≤ 4194304) (hb : ∀ x ∈ l, 0 ≤ x ∧ x < 256) : Ev (fun k => impl_summed.f k l) (summedM l) := by
  simp only [impl_summed.f]
  refine Ev.bind (implSumOf_ev l h hb) (ev_some fun k => ?_)
  simp only [Option.bind_some, List.length_cons, List.length_nil]
  rw [if_pos (by omega)]
  rfl
theorem implInBytes_ev (k p r c b q h : Int) (u : Bool) : Ev (fun n => impl_InBytes.f n k p r c b q h u) (inBytesM k p r c b q h u) := by
  simp only [impl_InBytes.f, implInOk_eq, Option.bind_some, inBytesM]
  by_cases ho : inOk k p r c b q h u = true
  · have hl := inBody_length k p r c b q h u
    have hy := inBody_bytes k p r c b q h u
    simp only [ho, if_true]
    refine Ev.bind (implPutNums_ev [] [k, p] (by simp) (by simp)) ?_
    rw [List.nil_append]
    have h1 := putNumsM_length [k, p]
    simp only [List.length_cons, List.length_nil] at h1
    by_cases k1 : k = 1
    · have eb : inBody k p r c b q h u = putNumsM [k, p] ++ putNumsM [r, c, b, q, h] := by unfold inBody; rw [if_pos k1]
      rw [eb] at hl hy ⊢
      simp only [if_pos k1]
      refine Ev.bind (implPutNums_ev (putNumsM [k, p]) [r, c, b, q, h] (by simp) (by omega)) ?_
      exact Ev.bind (implSummed_ev _ (by omega) hy) (ev_some fun n => rfl)
    · by_cases k3 : k = 3
      · have eb : inBody k p r c b q h u = putNumsM [k, p] ++ [if u then 1 else 0] := by unfold inBody; rw [if_neg k1, if_pos k3]
        rw [eb] at hl hy ⊢
        have e1 : impl_onByte.f u = some (if u then 1 else 0) := by cases u <;> rfl
        have e : (putNumsM [k, p]).length < 140737488355328 := by omega
        simp only [if_neg k1, if_pos k3, e1, Option.bind_some, e, if_true]
        exact Ev.bind (implSummed_ev _ (by omega) hy) (ev_some fun n => rfl)
      · have eb : inBody k p r c b q h u = putNumsM [k, p] := by unfold inBody; rw [if_neg k1, if_neg k3]; simp
        rw [eb] at hl hy ⊢
        simp only [if_neg k1, if_neg k3]
        exact Ev.bind (implSummed_ev _ (by omega) hy) (ev_some fun n => rfl)
  · refine ev_some fun n => ?_
    simp [ho]
theorem implAllBytes_ev (l : List IN) (h : l.length ≤ 4194304) : Ev (fun k => impl_AllBytes.f k l) (allB l) := by
  have := ev_list l (fun k (acc : List Int) i => impl_AllBytes.l0 k acc l (l.length : Int) i) (fun acc t => acc ++ allB t) (fun i acc => acc.length ≤ 39 * i)
    (fun acc hI => ev_end fun k => by simp only [impl_AllBytes.l0]; rw [if_neg (by omega)]; simp [allB, slices_Clip_byte_byte.f])
    (fun i acc x t hI hi _ hx ih => by
      have hl := inBytesM_length x.f0 x.f1 x.f2.f0 x.f2.f1 x.f2.f2 x.f2.f3 x.f3 x.f4
      have e : acc ++ allB (x :: t) = (acc ++ oneB x) ++ allB t := by simp [allB]
      rw [e]
      refine Ev.step (f := fun k => (impl_InBytes.f k x.f0 x.f1 x.f2.f0 x.f2.f1 x.f2.f2 x.f2.f3 x.f3 x.f4).bind fun t190 => (if acc.length + t190.length < 140737488355328 then (impl_AllBytes.l0 k (acc ++ t190) l (l.length : Int) ((i + 1 : Nat) : Int)) else (none))) (fun k => ?_) (Ev.bind (implInBytes_ev _ _ _ _ _ _ _ _) ?_)
      · simp only [impl_AllBytes.l0]
        rw [if_pos (by omega), if_pos (by omega), if_pos (by omega), rdIN hx, w64_succ (by omega)]
      · simp only [if_pos (show acc.length + (inBytesM x.f0 x.f1 x.f2.f0 x.f2.f1 x.f2.f2 x.f2.f3 x.f3 x.f4).length < 140737488355328 by omega)]
        exact ih (acc ++ oneB x) (by simp only [List.length_append, oneB]; omega))
    [] (by simp)
  simpa [impl_AllBytes.f] using this
abbrev IA := S88
/-- The program's own of a given one. -/
def icv (x : IA) : IN := ⟨x.f0, x.f1, ⟨x.f2.f0, x.f2.f1, x.f2.f2, x.f2.f3⟩, x.f3, x.f4⟩
theorem rdIA {l : List IA} {i : Nat} {x : IA} (h : l[i]? = some x) : rd_T88 l (i : Int) = x := getD_at h
theorem toInS_ev (l : List IA) (h : l.length ≤ 4194304) : Ev (fun k => laws_toInS.f k l) (l.map icv) := by
  have h0 := ev_copy l z84 icv (fun k acc i => laws_toInS.l0 k l acc i)
    (fun acc ha => ev_end fun k => by simp only [laws_toInS.l0]; rw [if_neg (by omega)])
    (fun i acc x r ha hi hx ih => Ev.step (fun k => by
      simp only [laws_toInS.l0, laws_toIn.f, laws_toVec.f, Option.bind_some]
      rw [if_pos (by omega), if_pos (by omega), if_pos (by omega), rdIA hx, w64_succ (by omega)]
      simp [icv]) ih)
  refine Ev.congr (fun k => ?_) h0
  simp only [laws_toInS.f]
  rw [if_pos (by omega), if_pos (by simp; omega)]
  simp
theorem eqByteB_ev (l : List Int) (h : l.length ≤ 1099511627776) : Ev (fun k => laws_eqByteS.f k l l) true := by
  have h0 := ev_list0 l (fun k i => laws_eqByteS.l0 k l l i) (fun _ => true)
    (ev_end fun k => by simp only [laws_eqByteS.l0]; rw [if_neg (by omega)])
    (fun i x t hi _ hx ih => Ev.step (fun k => by
      simp only [laws_eqByteS.l0]
      rw [if_pos (by omega), if_pos (by omega), if_pos (by omega), w64_succ (by omega)]
      try simp) ih)
  refine Ev.congr (fun k => ?_) h0
  simp [laws_eqByteS.f]
/-- What is written into bytes one by one, counting up. -/
def ups (m : Int) : List Int → List Int
  | [] => []
  | _ :: t => (m % 256) :: ups (m + 1) t
theorem ups_length : ∀ (l : List Int) (m : Int), (ups m l).length = l.length := by
  intro l
  induction l with
  | nil => intro m; rfl
  | cons x t ih => intro m; simp [ups, ih]
def setUps (acc : List Int) (i : Nat) (m : Int) : List Int → List Int
  | [] => acc
  | _ :: t => setUps (acc.set i (m % 256)) (i + 1) (m + 1) t
theorem setUps_eq : ∀ (t acc : List Int) (i : Nat) (m : Int), i + t.length = acc.length → setUps acc i m t = acc.take i ++ ups m t := by
  intro t
  induction t with
  | nil => intro acc i m h; simp at h; simp [setUps, ups, h]
  | cons x t ih =>
    intro acc i m h
    simp at h
    rw [setUps, ih _ _ _ (by simp; omega)]
    have e : (acc.set i (m % 256)).take (i + 1) = acc.take i ++ [m % 256] := by
      rw [List.take_succ_eq_append_getElem (by simp; omega)]
      simp [List.take_set_of_le]
    rw [e]
    simp [ups]
theorem markByteB_ev (l : List Int) (m : Int) (h : l.length ≤ 1099511627776) (h0 : 0 ≤ m) (h1 : m ≤ 1152921504606846976) : Ev (fun k => laws_markByteS.f k l m) (m + l.length, ups m l) := by
  have hh := ev_list l (fun k (s : Nat × Int × List Int) i => laws_markByteS.l0 k s.2.2 s.2.1 i) (fun s t => (s.2.1 + t.length, setUps s.2.2 s.1 s.2.1 t)) (fun i s => s.1 = i ∧ s.2.1 = m + i ∧ s.2.2.length = l.length)
    (fun s hI => by
      obtain ⟨j, n, acc⟩ := s
      obtain ⟨h2, h3, h4⟩ := hI
      dsimp only at h2 h3 h4 ⊢
      refine ev_end fun k => ?_
      simp only [laws_markByteS.l0]
      rw [if_neg (by omega)]
      simp [setUps])
    (fun i s x t hI hi _ hx ih => by
      obtain ⟨j, n, acc⟩ := s
      obtain ⟨h2, h3, h4⟩ := hI
      dsimp only at h2 h3 h4 ih ⊢
      subst h2
      have := ih (j + 1, n + 1, acc.set j (n % 256)) ⟨rfl, by dsimp only; omega, by simp [h4]⟩
      have e : (n + ((x :: t).length : Nat), setUps acc j n (x :: t)) = (n + 1 + (t.length : Nat), setUps (acc.set j (n % 256)) (j + 1) (n + 1) t) := by
        simp only [setUps, List.length_cons]
        congr 1
        omega
      rw [e]
      refine Ev.step (fun k => ?_) this
      simp only [laws_markByteS.l0]
      rw [if_pos (by omega), if_pos (by omega), w64_succ (by omega), w64 (by omega) (by omega)]
      simp)
    (0, m, l) ⟨rfl, by simp, rfl⟩
  dsimp only at hh
  rw [setUps_eq _ _ _ _ (by simp)] at hh
  simpa [laws_markByteS.f] using hh
theorem heldByteB_ev (l : List Int) (m : Int) (h : l.length ≤ 1099511627776) (h0 : 0 ≤ m) (h1 : m ≤ 1152921504606846976) : Ev (fun k => laws_heldByteS.f k (ups m l) m) (m + l.length) := by
  have key : ∀ (d i : Nat) (n : Int) (acc : List Int), i + d = acc.length → acc.length = l.length → n = m + i → (∃ t : List Int, acc.drop i = ups n t ∧ t.length = d) → Ev (fun k => laws_heldByteS.l0 k acc n (i : Int)) (n + d) := by
    intro d
    induction d with
    | zero =>
      intro i n acc hi ha hn _
      refine ev_end fun k => ?_
      simp only [laws_heldByteS.l0]
      rw [if_neg (by omega)]
      simp
    | succ d ih =>
      intro i n acc hi ha hn ht
      obtain ⟨t, ht, htl⟩ := ht
      obtain ⟨x, t, rfl⟩ : ∃ x t', t = x :: t' := by
        cases t with
        | nil => simp at htl
        | cons x t => exact ⟨x, t, rfl⟩
      simp at htl
      have hlt : i < acc.length := by omega
      rw [List.drop_eq_getElem_cons hlt, ups] at ht
      injection ht with e1 e2
      have := ih (i + 1) (n + 1) acc (by omega) ha (by omega) ⟨t, e2, htl⟩
      have e : n + ((d + 1 : Nat) : Int) = n + 1 + (d : Int) := by omega
      rw [e]
      refine Ev.step (fun k => ?_) this
      simp only [laws_heldByteS.l0]
      rw [if_pos (by omega), if_pos (by omega), rd_at (List.getElem?_eq_getElem hlt), if_pos e1, w64_succ (by omega), w64 (by omega) (by omega)]
  have := key l.length 0 m (ups m l) (by simp [ups_length]) (ups_length _ _) (by simp) ⟨l, by simp, rfl⟩
  simpa [laws_heldByteS.f] using this
theorem eqInS_ev (l : List IN) (h : l.length ≤ 4194304) : Ev (fun k => laws_eqInS.f k l l) true := by
  have h0 := ev_list0 l (fun k i => laws_eqInS.l0 k l l i) (fun _ => true)
    (ev_end fun k => by simp only [laws_eqInS.l0]; rw [if_neg (by omega)])
    (fun i x t hi _ hx ih => Ev.step (fun k => by
      simp only [laws_eqInS.l0, laws_eqIn.f, laws_eqVec.f]
      rw [if_pos (by omega), if_pos (by omega), if_pos (by omega), w64_succ (by omega)]
      simp) ih)
  refine Ev.congr (fun k => ?_) h0
  simp [laws_eqInS.f]
def inmk (_ : IN) (n : Int) : IN := ⟨n, n + 1, ⟨n + 1 + 1, n + 1 + 1 + 1, n + 1 + 1 + 1 + 1, n + 1 + 1 + 1 + 1 + 1⟩, n + 1 + 1 + 1 + 1 + 1 + 1, (Int.tmod (n + 1 + 1 + 1 + 1 + 1 + 1 + 1) 3 == 0)⟩
theorem rdIN_set {l : List IN} {i : Nat} (h : i < l.length) (v : IN) : rd_T84 (l.set i v) (i : Int) = v := rdIN (by simp [h])
theorem markInS_ev (l : List IN) (h : l.length ≤ 4194304) (m : Int) (h0 : 0 ≤ m) (h1 : m ≤ 1125899906842624) : Ev (fun k => laws_markInS.f k l m) (m + costs (fun _ => 8) l, upsG inmk (fun _ => 8) m l) := by
  refine ev_mark l inmk (fun _ => 8) (fun _ _ => by decide) (fun k acc n i => laws_markInS.l0 k acc n i) (fun acc n ha => ?_) (fun i acc n x r ha hi _ hx hn hb ih => ?_) m h0 (by rw [costs_const]; omega)
  · refine ev_end fun k => ?_
    simp only [laws_markInS.l0]
    rw [if_neg (by omega)]
  · refine Ev.step (fun k => ?_) ih
    have hs := fun v => rdIN_set (l := acc) (i := i) (by omega) v
    simp only [laws_markInS.l0]
    rw [if_pos (by omega), if_pos (by omega), w64_succ (by omega)]
    simp (disch := omega) only [Option.bind_some, Int.toNat_natCast, hs, List.set_set, w64, inmk]
    have e : n + 8 = n + 1 + 1 + 1 + 1 + 1 + 1 + 1 + 1 := by omega
    rw [e]
theorem FnExactAllBytes : FnExactAllBytesPure := by
  intro l hl
  have hl1 : l.length ≤ 9223372036854775807 := hl.1
  by_cases hbig : (l.length : Int) > 1048576
  · refine ⟨0, ?_⟩
    simp only [laws_FnExactAllBytes.f, laws_szInS.f]
    rw [w64 (by omega) (by omega), if_pos (by omega)]
    rfl
  have hm : (l.map icv).length ≤ 1048576 := by rw [List.length_map]; omega
  have hal := allB_length (l.map icv)
  obtain ⟨K1, h1⟩ := toInS_ev l (by omega)
  obtain ⟨K2, h2⟩ := specAllBytes_ev (l.map icv) (by omega)
  obtain ⟨K3, h3⟩ := implAllBytes_ev (l.map icv) (by omega)
  obtain ⟨K4, h4⟩ := eqInS_ev (l.map icv) (by omega)
  obtain ⟨K7, h7⟩ := markInS_ev (l.map icv) (by omega) 1 (by omega) (by omega)
  have hc := costs_const (β := IN) 8 (l.map icv)
  generalize allB (l.map icv) = B at hal h2 h3
  obtain ⟨K5, h5⟩ := eqByteB_ev B (by omega)
  obtain ⟨K6, h6⟩ := markByteB_ev B 1 (by omega) (by omega) (by omega)
  obtain ⟨K8, h8⟩ := heldByteB_ev B 1 (by omega) (by omega) (by omega)
  generalize costs (fun _ => 8) (l.map icv) = c0 at hc h7
  generalize upsG inmk (fun _ => 8) 1 (l.map icv) = L at h7
  generalize l.map icv = m at hm h1 h2 h3 h4 h7
  obtain ⟨S, hS⟩ : ∃ S, S = K1 + K2 + K3 + K4 + K5 + K6 + K7 + K8 := ⟨_, rfl⟩
  refine ⟨S + 1, ?_⟩
  have h1_0 := h1 S (by omega)
  have h1_1 := h1 (S + 1) (by omega)
  have h2_0 := h2 S (by omega)
  have h2_1 := h2 (S + 1) (by omega)
  have h3_0 := h3 S (by omega)
  have h3_1 := h3 (S + 1) (by omega)
  have h4_0 := h4 S (by omega)
  have h4_1 := h4 (S + 1) (by omega)
  have h5_0 := h5 S (by omega)
  have h5_1 := h5 (S + 1) (by omega)
  have h6_0 := h6 S (by omega)
  have h6_1 := h6 (S + 1) (by omega)
  have h7_0 := h7 S (by omega)
  have h7_1 := h7 (S + 1) (by omega)
  have h8_0 := h8 S (by omega)
  have h8_1 := h8 (S + 1) (by omega)
  clear h1 h2 h3 h4 h5 h6 h7 h8
  have e0 : wrap64 (1048576 - (l.length : Int)) = 1048576 - (l.length : Int) := w64 (by omega) (by omega)
  have e : ¬ ((1048576 : Int) - l.length < 0) := by omega
  have e1 : ¬ ((1 : Int) + c0 < 0) := by omega
  have e2 : ¬ ((1 : Int) + B.length < 0) := by omega
  simp only [laws_FnExactAllBytes.f, laws_FnExactAllBytes.j0, laws_szInS.f, h1_0, h1_1, h2_0, h2_1, h3_0, h3_1, h4_0, h4_1, h5_0, h5_1, h6_0, h6_1, h7_0, h7_1, h8_0, h8_1, e0, e, e1, e2, Option.bind_some, if_true, if_false, Bool.not_true, Bool.false_eq_true]
end Go.Proofs.Ytaoipjdmmamkmaa.Pure
