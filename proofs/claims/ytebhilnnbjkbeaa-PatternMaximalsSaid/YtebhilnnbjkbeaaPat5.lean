/- Patterns: that fit exactly those that are listed; the program's Index and Maximal; the reference's. -/
import Derived.Test.YtebhilnnbjkbeaaPat4
import Derived.Test.YtebhilnnbjkbeaaP38x16
namespace Go.Proofs.Ytebhilnnbjkbeaa.P38
open Go.RowKit Go.Proofs.YtebhilnnbjkbeaaW.PrintWords Go.Proofs.YtebhilnnbjkbeaaW.PrintLast Go.Proofs.YtebhilnnbjkbeaaW.PrintMore
set_option linter.unusedVariables false
set_option linter.unusedSimpArgs false
namespace Pat

theorem wid_nonneg : ∀ (a b : List Int), (∀ x ∈ a, 0 ≤ x) → (∀ x ∈ b, 0 ≤ x) → 0 ≤ wid a b := by
  intro a
  induction a with
  | nil => intro b _ _; simp [wid]
  | cons x a iha =>
    intro b ha hb
    cases b with
    | nil => simp [wid]
    | cons y b =>
      have h1 := iha b (fun z hz => ha z (by simp [hz])) (fun z hz => hb z (by simp [hz]))
      have h2 := Int.mul_nonneg (ha x (by simp)) (hb y (by simp))
      simp only [wid]
      omega
theorem mem_full (T K : Int) (ss : List Int) : ∀ (c : List Int) (kn left : Int) (e : List Int), (∀ x ∈ ss, 1 ≤ x) → e.length = ss.length → (∀ x ∈ e, 0 ≤ x) → tot e ≤ kn → wid e ss ≤ left → left - wid e ss ≤ T → kn - tot e < K → c ++ e ∈ full T K ss c kn left := by
  induction ss with
  | nil =>
    intro c kn left e _ he _ h1 h2 h3 h4
    obtain rfl : e = [] := List.length_eq_zero_iff.1 he
    simp only [tot, wid] at h1 h2 h3 h4
    rw [full, if_pos ⟨by omega, by omega⟩]
    simp
  | cons s ss ih =>
    intro c kn left e hs he hn h1 h2 h3 h4
    cases e with
    | nil => simp at he
    | cons n e =>
      simp only [tot, wid] at h1 h2 h3 h4
      have hn0 := hn n (by simp)
      have ht := tot_nonneg e (fun x hx => hn x (by simp [hx]))
      have hw := wid_nonneg e ss (fun x hx => hn x (by simp [hx])) (fun x hx => by have := hs x (by simp [hx]); omega)
      have hs1 := hs s (by simp)
      have hle : n ≤ left / s := (Int.le_ediv_iff_mul_le (by omega)).2 (by omega)
      rw [full, List.mem_flatMap]
      refine ⟨n.toNat, by rw [List.mem_reverse, List.mem_range]; omega, ?_⟩
      have hnn : (n.toNat : Int) = n := Int.toNat_of_nonneg hn0
      rw [hnn]
      have := ih (c ++ [n]) (kn - n) (left - n * s) e (fun x hx => hs x (by simp [hx])) (by simpa using he) (fun x hx => hn x (by simp [hx])) (by omega) (by omega) (by omega) (by omega)
      simpa using this
theorem full_mem (T K : Int) (ss : List Int) : ∀ (c : List Int) (kn left : Int), (∀ x ∈ ss, 1 ≤ x) → 0 ≤ kn → 0 ≤ left → ∀ x ∈ full T K ss c kn left, ∃ e, x = c ++ e ∧ e.length = ss.length ∧ (∀ y ∈ e, 0 ≤ y) ∧ tot e ≤ kn ∧ wid e ss ≤ left ∧ left - wid e ss ≤ T ∧ kn - tot e < K := by
  induction ss with
  | nil =>
    intro c kn left _ hk hl x hx
    rw [full] at hx
    split at hx
    · rename_i h
      have : x = c := by simpa using hx
      exact ⟨[], by simp [this], rfl, by simp, by simpa [tot] using hk, by simpa [wid] using hl, by simpa [wid] using h.1, by simpa [tot] using h.2⟩
    · cases hx
  | cons s ss ih =>
    intro c kn left hs hk hl x hx
    rw [full, List.mem_flatMap] at hx
    obtain ⟨n, hn, hx⟩ := hx
    have hr := range_mem hk (hs s (by simp)) hl hn
    obtain ⟨e, he, h1, h2, h3, h4, h5, h6⟩ := ih _ _ _ (fun y hy => hs y (by simp [hy])) (by omega) (by omega) x hx
    refine ⟨(n : Int) :: e, by simp [he], by simp [h1], fun y hy => ?_, ?_, ?_, ?_, ?_⟩
    · rcases List.mem_cons.1 hy with rfl | hy
      · omega
      · exact h2 y hy
    · simp only [tot]; omega
    · simp only [wid]; omega
    · simp only [wid]; omega
    · simp only [tot]; omega
theorem mem_pats {W E T K : Int} {l : List Int} (dk : Deck W E T K l) (c : List Int) : c ∈ pats W E T K l ↔ fitErr W E T K l c = 0 := by
  rw [fit_iff]
  constructor
  · intro h
    obtain ⟨e, he, h1, h2, h3, h4, h5, h6⟩ := full_mem T K l [] K (W - 2 * E) (fun x hx => (dk.rng x hx).1) (by have := dk.good.k0; omega) (usable_nonneg dk.good) c h
    obtain rfl : c = e := by simpa using he
    exact ⟨h1, h2, by omega, h3, h4, h5⟩
  · intro h
    have := mem_full T K l [] K (W - 2 * E) c (fun x hx => (dk.rng x hx).1) h.len h.nn h.le h.fit h.trim (by have := h.pos; omega)
    simpa [pats] using this

/-! ### Index -/
noncomputable def IndexV (W E T K : Int) (l c : List Int) : Int × Int := if FitsE W E T K l c = 0 then (pattern_Index.at_ (pats W E T K l) c, 0) else (0, FitsE W E T K l c)
theorem IndexP (W E T K : Int) (l c : List Int) : Ev (fun k => pattern_Index.f k W E T K l c) (IndexV W E T K l c) := by
  unfold IndexV
  by_cases h : FitsE W E T K l c = 0
  · rw [if_pos h]
    obtain ⟨dk, hle, _⟩ := fits_ok h
    have e := list_f W E T K l dk 1024 (by omega)
    rw [List.take_of_length_le hle] at e
    exact into (FitsP W E T K l c) (fun k hk => by rw [pattern_Index.f, hk, Option.bind_some, if_pos h, show (1024 : Int) = ((1024 : Nat) : Int) from rfl, e, Option.bind_some]) (Ev.now _)
  · rw [if_neg h]
    exact into (FitsP W E T K l c) (fun k hk => by rw [pattern_Index.f, hk, Option.bind_some, if_neg h]) (Ev.now _)
/-- A pattern that fits: the first place where it stands. -/
theorem index_at {W E T K : Int} {l c : List Int} (h : FitsE W E T K l c = 0) : ∃ i : Nat, ∃ hi : i < (pats W E T K l).length, (pats W E T K l)[i] = c ∧ (∀ j, j < i → (pats W E T K l)[j]? ≠ some c) ∧ IndexV W E T K l c = ((i : Int), 0) := by
  obtain ⟨dk, hle, hf⟩ := fits_ok h
  have hm := (mem_pats dk c).2 hf
  have hex : ∃ i : Nat, (pats W E T K l)[i]? = some c := List.getElem?_of_mem hm
  obtain ⟨i, hi, hmin⟩ : ∃ i : Nat, (pats W E T K l)[i]? = some c ∧ ∀ j, j < i → (pats W E T K l)[j]? ≠ some c := by
    obtain ⟨i, hi⟩ := hex
    induction i using Nat.strongRecOn with
    | _ i ih =>
      by_cases hx : ∃ j, j < i ∧ (pats W E T K l)[j]? = some c
      · obtain ⟨j, hj, hjc⟩ := hx
        exact ih j hj hjc
      · exact ⟨i, hi, fun j hj e => hx ⟨j, hj, e⟩⟩
  obtain ⟨hlt, he⟩ := List.getElem?_eq_some_iff.1 hi
  refine ⟨i, hlt, he, hmin, ?_⟩
  unfold IndexV
  rw [if_pos h, pattern_Index.at_hit hi hmin]
end Pat
end Go.Proofs.Ytebhilnnbjkbeaa.P38
