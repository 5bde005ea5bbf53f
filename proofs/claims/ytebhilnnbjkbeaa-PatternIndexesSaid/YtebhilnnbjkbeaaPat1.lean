/- The cutting patterns of the program and of the reference, as plain functions: the checks of a deckle (ranges, right), of a pattern (room, fits), and the lists of all patterns. -/
import Derived.Test.YtebhilnnbjkbeaaP38x3
import Derived.Test.YtebhilnnbjkbeaaP38x4
import Derived.Test.YtebhilnnbjkbeaaP38x5
import Derived.Test.YtebhilnnbjkbeaaP38x20
import Derived.Test.YtebhilnnbjkbeaaP38x23
namespace Go.Proofs.Ytebhilnnbjkbeaa.P38
open Go.RowKit Go.Proofs.YtebhilnnbjkbeaaW.PrintWords Go.Proofs.YtebhilnnbjkbeaaW.PrintLast Go.Proofs.YtebhilnnbjkbeaaW.PrintMore
set_option linter.unusedVariables false
set_option linter.unusedSimpArgs false
namespace Pat

theorem rd_at (l : List Int) (i : Nat) (h : i < l.length) : rd l (i : Int) = l[i] := by
  unfold rd
  rw [Int.toNat_natCast, List.getD_eq_getElem?_getD, List.getElem?_eq_getElem h]
  rfl
theorem w64 {x : Int} (h0 : -9223372036854775808 ≤ x) (h1 : x ≤ 9223372036854775807) : wrap64 x = x := by unfold wrap64; omega

/-! ### A deckle -/
structure Good (W E T K : Int) : Prop where
  w0 : 1 ≤ W
  w1 : W ≤ 12000
  e0 : 0 ≤ E
  e1 : E ≤ (W - 1) / 2
  t0 : 0 ≤ T
  t1 : T ≤ W
  k0 : 1 ≤ K
  k1 : K ≤ 12
def Bad (U : Int) (l : List Int) : Prop := ∃ s ∈ l, s < 1 ∨ s > U
def Desc (l : List Int) : Prop := ∀ (i : Nat) (h : i + 1 < l.length), l[i + 1] < l[i]
open Classical in
noncomputable def sizes (U : Int) (l : List Int) : Int := if l.length = 0 then 10 else if 8 < l.length then 8 else if Bad U l then 20 else if Desc l then 0 else 9
open Classical in
noncomputable def err (W E T K : Int) (l : List Int) : Int := if Good W E T K then sizes (W - 2 * E) l else 1

theorem usable (W E T K : Int) (l : List Int) (g : Good W E T K) : pattern_usable.f W E T K l = some (W - 2 * E) := by
  have := g.w0; have := g.w1; have := g.e0; have := g.e1
  unfold pattern_usable.f wrap64
  congr 1
  omega
theorem usableR (W E T K : Int) (l : List Int) (g : Good W E T K) : papermillref38_usable.f W E T K l = some (W - 2 * E) := usable W E T K l g

open Classical in
theorem ranges_l1 (W E T K : Int) (l : List Int) (h8 : l.length ≤ 8) (d : Nat) : ∀ i : Nat, i + d = l.length → 1 ≤ i →
    Ev (fun k => pattern_ranges.l1 k (i : Int) W E T K l) (if ∀ (j : Nat) (h : j + 1 < l.length), i ≤ j + 1 → l[j + 1] < l[j] then 0 else 9) := by
  induction d with
  | zero =>
    intro i hi h1
    rw [if_pos (fun j h hj => by omega)]
    refine Ev.step (fun k => ?_) (Ev.now 0)
    simp only [pattern_ranges.l1]
    rw [if_neg (by omega)]
  | succ d ih =>
    intro i hi h1
    obtain ⟨i, rfl⟩ : ∃ m, i = m + 1 := ⟨i - 1, by omega⟩
    have e1 : wrap64 (((i + 1 : Nat) : Int) - 1) = (i : Int) := by unfold wrap64; omega
    have e2 : wrap64 (((i + 1 : Nat) : Int) + 1) = ((i + 1 + 1 : Nat) : Int) := by unfold wrap64; omega
    by_cases hlt : l[i + 1]'(by omega) < l[i]'(by omega)
    · have := ih (i + 1 + 1) (by omega) (by omega)
      have hiff : (∀ (j : Nat) (h : j + 1 < l.length), i + 1 ≤ j + 1 → l[j + 1] < l[j]) ↔ (∀ (j : Nat) (h : j + 1 < l.length), i + 1 + 1 ≤ j + 1 → l[j + 1] < l[j]) :=
        ⟨fun h j hj hij => h j hj (by omega), fun h j hj hij => by
          rcases Nat.eq_or_lt_of_le hij with e | e
          · obtain rfl : j = i := by omega
            exact hlt
          · exact h j hj (by omega)⟩
      simp only [hiff]
      refine Ev.step (fun k => ?_) this
      simp only [pattern_ranges.l1]
      rw [if_pos (by omega), if_pos (by omega), e1, if_pos (by omega), if_pos (by omega), rd_at l (i + 1) (by omega), rd_at l i (by omega), if_neg (by omega), e2]
    · rw [if_neg (fun h => hlt (h i (by omega) (by omega)))]
      refine Ev.step (fun k => ?_) (Ev.now 9)
      simp only [pattern_ranges.l1]
      rw [if_pos (by omega), if_pos (by omega), e1, if_pos (by omega), if_pos (by omega), rd_at l (i + 1) (by omega), rd_at l i (by omega), if_pos (by omega)]
open Classical in
theorem right_l1 (W E T K : Int) (l : List Int) (h8 : l.length ≤ 8) (d : Nat) : ∀ i : Nat, i + d = l.length → 1 ≤ i →
    Ev (fun k => papermillref38_right.l1 k (i : Int) W E T K l) (if ∀ (j : Nat) (h : j + 1 < l.length), i ≤ j + 1 → l[j + 1] < l[j] then 0 else 9) := by
  induction d with
  | zero =>
    intro i hi h1
    rw [if_pos (fun j h hj => by omega)]
    refine Ev.step (fun k => ?_) (Ev.now 0)
    simp only [papermillref38_right.l1]
    rw [if_neg (by omega)]
  | succ d ih =>
    intro i hi h1
    obtain ⟨i, rfl⟩ : ∃ m, i = m + 1 := ⟨i - 1, by omega⟩
    have e1 : wrap64 (((i + 1 : Nat) : Int) - 1) = (i : Int) := by unfold wrap64; omega
    have e2 : wrap64 (((i + 1 : Nat) : Int) + 1) = ((i + 1 + 1 : Nat) : Int) := by unfold wrap64; omega
    by_cases hlt : l[i + 1]'(by omega) < l[i]'(by omega)
    · have := ih (i + 1 + 1) (by omega) (by omega)
      have hiff : (∀ (j : Nat) (h : j + 1 < l.length), i + 1 ≤ j + 1 → l[j + 1] < l[j]) ↔ (∀ (j : Nat) (h : j + 1 < l.length), i + 1 + 1 ≤ j + 1 → l[j + 1] < l[j]) :=
        ⟨fun h j hj hij => h j hj (by omega), fun h j hj hij => by
          rcases Nat.eq_or_lt_of_le hij with e | e
          · obtain rfl : j = i := by omega
            exact hlt
          · exact h j hj (by omega)⟩
      simp only [hiff]
      refine Ev.step (fun k => ?_) this
      simp only [papermillref38_right.l1]
      rw [if_pos (by omega), if_pos (by omega), e1, if_pos (by omega), if_pos (by omega), rd_at l (i + 1) (by omega), rd_at l i (by omega), if_neg (by omega), e2]
    · rw [if_neg (fun h => hlt (h i (by omega) (by omega)))]
      refine Ev.step (fun k => ?_) (Ev.now 9)
      simp only [papermillref38_right.l1]
      rw [if_pos (by omega), if_pos (by omega), e1, if_pos (by omega), if_pos (by omega), rd_at l (i + 1) (by omega), rd_at l i (by omega), if_pos (by omega)]

theorem bad_step (U : Int) (l : List Int) (i : Nat) (h : i < l.length) : Bad U (l.drop i) ↔ (l[i] < 1 ∨ l[i] > U) ∨ Bad U (l.drop (i + 1)) := by
  unfold Bad
  rw [List.drop_eq_getElem_cons h]
  simp only [List.mem_cons, exists_eq_or_imp]
theorem desc_one (l : List Int) : (∀ (j : Nat) (h : j + 1 < l.length), 1 ≤ j + 1 → l[j + 1] < l[j]) ↔ Desc l := ⟨fun h j hj => h j hj (by omega), fun h j hj _ => h j hj⟩

open Classical in
theorem ranges_l0 (W E T K : Int) (l : List Int) (g : Good W E T K) (h8 : l.length ≤ 8) (h0 : 0 < l.length) (d : Nat) : ∀ i : Nat, i + d = l.length →
    Ev (fun k => pattern_ranges.l0 k l (l.length : Int) (i : Int) W E T K l) (if Bad (W - 2 * E) (l.drop i) then 20 else if Desc l then 0 else 9) := by
  induction d with
  | zero =>
    intro i hi
    rw [if_neg (by rw [List.drop_eq_nil_of_le (by omega)]; rintro ⟨s, hs, _⟩; cases hs)]
    have := ranges_l1 W E T K l h8 (l.length - 1) 1 (by omega) (by omega)
    simp only [desc_one] at this
    refine Ev.step (fun k => ?_) this
    simp only [pattern_ranges.l0]
    rw [if_neg (by omega)]
    rfl
  | succ d ih =>
    intro i hi
    have e2 : wrap64 ((i : Int) + 1) = ((i + 1 : Nat) : Int) := by unfold wrap64; omega
    rw [bad_step _ _ i (by omega)]
    by_cases h1 : l[i]'(by omega) < 1
    · rw [if_pos (.inl (.inl h1))]
      refine Ev.step (fun k => ?_) (Ev.now 20)
      simp only [pattern_ranges.l0]
      rw [if_pos (by omega), if_pos (by omega), if_pos (by omega), rd_at l i (by omega), if_pos h1]
    · by_cases h2 : l[i]'(by omega) > W - 2 * E
      · rw [if_pos (.inl (.inr h2))]
        refine Ev.step (fun k => ?_) (Ev.now 20)
        simp only [pattern_ranges.l0]
        rw [if_pos (by omega), if_pos (by omega), if_pos (by omega), rd_at l i (by omega), if_neg h1, usable W E T K l g, Option.bind_some, if_pos h2]
      · have hiff : ((l[i]'(by omega) < 1 ∨ l[i]'(by omega) > W - 2 * E) ∨ Bad (W - 2 * E) (l.drop (i + 1))) ↔ Bad (W - 2 * E) (l.drop (i + 1)) := ⟨fun h => by
          rcases h with (h | h) | h
          · exact absurd h h1
          · exact absurd h h2
          · exact h, .inr⟩
        simp only [hiff]
        refine Ev.step (fun k => ?_) (ih (i + 1) (by omega))
        simp only [pattern_ranges.l0]
        rw [if_pos (by omega), if_pos (by omega), if_pos (by omega), rd_at l i (by omega), if_neg h1, usable W E T K l g, Option.bind_some, if_neg h2, e2]
open Classical in
theorem right_l0 (W E T K : Int) (l : List Int) (g : Good W E T K) (h8 : l.length ≤ 8) (h0 : 0 < l.length) (d : Nat) : ∀ i : Nat, i + d = l.length →
    Ev (fun k => papermillref38_right.l0 k (i : Int) W E T K l) (if Bad (W - 2 * E) (l.drop i) then 20 else if Desc l then 0 else 9) := by
  induction d with
  | zero =>
    intro i hi
    rw [if_neg (by rw [List.drop_eq_nil_of_le (by omega)]; rintro ⟨s, hs, _⟩; cases hs)]
    have := right_l1 W E T K l h8 (l.length - 1) 1 (by omega) (by omega)
    simp only [desc_one] at this
    refine Ev.step (fun k => ?_) this
    simp only [papermillref38_right.l0]
    rw [if_neg (by omega)]
    rfl
  | succ d ih =>
    intro i hi
    have e2 : wrap64 ((i : Int) + 1) = ((i + 1 : Nat) : Int) := by unfold wrap64; omega
    rw [bad_step _ _ i (by omega)]
    by_cases h1 : l[i]'(by omega) < 1
    · rw [if_pos (.inl (.inl h1))]
      refine Ev.step (fun k => ?_) (Ev.now 20)
      simp only [papermillref38_right.l0]
      rw [if_pos (by omega), if_pos (by omega), rd_at l i (by omega), if_pos h1]
    · by_cases h2 : l[i]'(by omega) > W - 2 * E
      · rw [if_pos (.inl (.inr h2))]
        refine Ev.step (fun k => ?_) (Ev.now 20)
        simp only [papermillref38_right.l0]
        rw [if_pos (by omega), if_pos (by omega), rd_at l i (by omega), if_neg h1, usableR W E T K l g, Option.bind_some, if_pos h2]
      · have hiff : ((l[i]'(by omega) < 1 ∨ l[i]'(by omega) > W - 2 * E) ∨ Bad (W - 2 * E) (l.drop (i + 1))) ↔ Bad (W - 2 * E) (l.drop (i + 1)) := ⟨fun h => by
          rcases h with (h | h) | h
          · exact absurd h h1
          · exact absurd h h2
          · exact h, .inr⟩
        simp only [hiff]
        refine Ev.step (fun k => ?_) (ih (i + 1) (by omega))
        simp only [papermillref38_right.l0]
        rw [if_pos (by omega), if_pos (by omega), rd_at l i (by omega), if_neg h1, usableR W E T K l g, Option.bind_some, if_neg h2, e2]

theorem ranges_j0 (W E T K : Int) (l : List Int) (g : Good W E T K) : Ev (fun k => pattern_ranges.j0 k false W E T K l) (sizes (W - 2 * E) l) := by
  unfold sizes
  by_cases h0 : l.length = 0
  · rw [if_pos h0]
    refine Ev.step (fun k => ?_) (Ev.now 10)
    simp only [pattern_ranges.j0]
    rw [if_neg (by simp), if_pos (by omega)]
  · rw [if_neg h0]
    by_cases h8 : 8 < l.length
    · rw [if_pos h8]
      refine Ev.step (fun k => ?_) (Ev.now 8)
      simp only [pattern_ranges.j0]
      rw [if_neg (by simp), if_neg (by omega), if_pos (by omega)]
    · rw [if_neg h8]
      have := ranges_l0 W E T K l g (by omega) (by omega) l.length 0 (by omega)
      refine Ev.step (fun k => ?_) this
      simp only [pattern_ranges.j0]
      rw [if_neg (by simp), if_neg (by omega), if_neg (by omega)]
      rfl
theorem right_j0 (W E T K : Int) (l : List Int) (g : Good W E T K) : Ev (fun k => papermillref38_right.j0 k false W E T K l) (sizes (W - 2 * E) l) := by
  unfold sizes
  by_cases h0 : l.length = 0
  · rw [if_pos h0]
    refine Ev.step (fun k => ?_) (Ev.now 10)
    simp only [papermillref38_right.j0]
    rw [if_neg (by simp), if_pos (by omega)]
  · rw [if_neg h0]
    by_cases h8 : 8 < l.length
    · rw [if_pos h8]
      refine Ev.step (fun k => ?_) (Ev.now 8)
      simp only [papermillref38_right.j0]
      rw [if_neg (by simp), if_neg (by omega), if_pos (by omega)]
    · rw [if_neg h8]
      have := right_l0 W E T K l g (by omega) (by omega) l.length 0 (by omega)
      refine Ev.step (fun k => ?_) this
      simp only [papermillref38_right.j0]
      rw [if_neg (by simp), if_neg (by omega), if_neg (by omega)]
      rfl
theorem ranges_true (W E T K : Int) (l : List Int) : Ev (fun k => pattern_ranges.j0 k true W E T K l) 1 := Ev.step (fun k => by simp only [pattern_ranges.j0]; rw [if_pos trivial]) (Ev.now 1)
theorem right_true (W E T K : Int) (l : List Int) : Ev (fun k => papermillref38_right.j0 k true W E T K l) 1 := Ev.step (fun k => by simp only [papermillref38_right.j0]; rw [if_pos trivial]) (Ev.now 1)
theorem half {W : Int} (h0 : 1 ≤ W) (h1 : W ≤ 12000) : wrap64 (Int.tdiv (wrap64 (W - 1)) 2) = (W - 1) / 2 := by
  rw [w64 (x := W - 1) (by omega) (by omega), Int.tdiv_eq_ediv_of_nonneg (by omega), w64 (by omega) (by omega)]

theorem ranges (W E T K : Int) (l : List Int) : Ev (fun k => pattern_ranges.f k W E T K l) (err W E T K l) := by
  unfold err pattern_ranges.f
  by_cases h1 : W < 1
  · rw [if_neg (fun g => by have := g.w0; omega)]
    simp only [if_pos h1]
    exact ranges_true W E T K l
  simp only [if_neg h1]
  by_cases h2 : W > 12000
  · rw [if_neg (fun g => by have := g.w1; omega)]
    simp only [if_pos h2]
    exact ranges_true W E T K l
  simp only [if_neg h2, half (show 1 ≤ W by omega) (show W ≤ 12000 by omega)]
  by_cases h3 : E < 0
  · rw [if_neg (fun g => by have := g.e0; omega)]
    simp only [if_pos h3]
    exact ranges_true W E T K l
  simp only [if_neg h3]
  by_cases h4 : E > (W - 1) / 2
  · rw [if_neg (fun g => by have := g.e1; omega)]
    simp only [if_pos h4]
    exact ranges_true W E T K l
  simp only [if_neg h4]
  by_cases h5 : T < 0
  · rw [if_neg (fun g => by have := g.t0; omega)]
    simp only [if_pos h5]
    exact ranges_true W E T K l
  simp only [if_neg h5]
  by_cases h6 : T > W
  · rw [if_neg (fun g => by have := g.t1; omega)]
    simp only [if_pos h6]
    exact ranges_true W E T K l
  simp only [if_neg h6]
  by_cases h7 : K < 1
  · rw [if_neg (fun g => by have := g.k0; omega)]
    simp only [if_pos h7]
    exact ranges_true W E T K l
  simp only [if_neg h7]
  by_cases h8 : K > 12
  · rw [if_neg (fun g => by have := g.k1; omega)]
    simp only [decide_eq_true h8]
    exact ranges_true W E T K l
  simp only [decide_eq_false h8]
  rw [if_pos ⟨by omega, by omega, by omega, by omega, by omega, by omega, by omega, by omega⟩]
  exact ranges_j0 W E T K l ⟨by omega, by omega, by omega, by omega, by omega, by omega, by omega, by omega⟩
theorem right (W E T K : Int) (l : List Int) : Ev (fun k => papermillref38_right.f k W E T K l) (err W E T K l) := by
  unfold err papermillref38_right.f
  by_cases h1 : W < 1
  · rw [if_neg (fun g => by have := g.w0; omega)]
    simp only [if_pos h1]
    exact right_true W E T K l
  simp only [if_neg h1]
  by_cases h2 : W > 12000
  · rw [if_neg (fun g => by have := g.w1; omega)]
    simp only [if_pos h2]
    exact right_true W E T K l
  simp only [if_neg h2, half (show 1 ≤ W by omega) (show W ≤ 12000 by omega)]
  by_cases h3 : E < 0
  · rw [if_neg (fun g => by have := g.e0; omega)]
    simp only [if_pos h3]
    exact right_true W E T K l
  simp only [if_neg h3]
  by_cases h4 : E > (W - 1) / 2
  · rw [if_neg (fun g => by have := g.e1; omega)]
    simp only [if_pos h4]
    exact right_true W E T K l
  simp only [if_neg h4]
  by_cases h5 : T < 0
  · rw [if_neg (fun g => by have := g.t0; omega)]
    simp only [if_pos h5]
    exact right_true W E T K l
  simp only [if_neg h5]
  by_cases h6 : T > W
  · rw [if_neg (fun g => by have := g.t1; omega)]
    simp only [if_pos h6]
    exact right_true W E T K l
  simp only [if_neg h6]
  by_cases h7 : K < 1
  · rw [if_neg (fun g => by have := g.k0; omega)]
    simp only [if_pos h7]
    exact right_true W E T K l
  simp only [if_neg h7]
  by_cases h8 : K > 12
  · rw [if_neg (fun g => by have := g.k1; omega)]
    simp only [decide_eq_true h8]
    exact right_true W E T K l
  simp only [decide_eq_false h8]
  rw [if_pos ⟨by omega, by omega, by omega, by omega, by omega, by omega, by omega, by omega⟩]
  exact right_j0 W E T K l ⟨by omega, by omega, by omega, by omega, by omega, by omega, by omega, by omega⟩

/-- What a deckle that passes these checks is. -/
structure Deck (W E T K : Int) (l : List Int) : Prop where
  good : Good W E T K
  ne : 0 < l.length
  le : l.length ≤ 8
  rng : ∀ s ∈ l, 1 ≤ s ∧ s ≤ W - 2 * E
  desc : Desc l
theorem deck {W E T K : Int} {l : List Int} (h : err W E T K l = 0) : Deck W E T K l := by
  unfold err at h
  split at h
  · rename_i g
    unfold sizes at h
    split at h
    · omega
    split at h
    · omega
    split at h
    · omega
    split at h
    · rename_i h1 h2 h3 h4
      exact ⟨g, by omega, by omega, fun s hs => by
        have h5 : ¬ (s < 1 ∨ s > W - 2 * E) := fun h => h3 ⟨s, hs, h⟩
        omega, h4⟩
    · omega
  · omega
theorem deck_pre {W E T K : Int} {l : List Int} (d : Deck W E T K l) (m : Int) (h0 : 0 ≤ m) (h1 : m ≤ 4096) : pattern_list.Pre W E T K l m := by
  have g := d.good
  have := g.w0; have := g.w1; have := g.e0; have := g.e1; have := g.t0; have := g.t1; have := g.k0; have := g.k1
  exact ⟨by omega, by omega, by omega, by omega, by omega, by omega, by omega, by omega, d.le, d.ne, fun s hs => by have := d.rng s hs; omega, h0, h1⟩

end Pat
end Go.Proofs.Ytebhilnnbjkbeaa.P38
