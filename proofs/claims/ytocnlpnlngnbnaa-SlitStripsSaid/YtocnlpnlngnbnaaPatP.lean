/- Patterns: what the program's functions answer. -/
import Derived.Test.YtocnlpnlngnbnaaPat0
import Derived.Test.YtocnlpnlngnbnaaP39x11
import Derived.Test.YtocnlpnlngnbnaaP39x18
import Derived.Test.YtocnlpnlngnbnaaP39x19
import Derived.Test.YtocnlpnlngnbnaaP39x23
import Derived.Test.YtocnlpnlngnbnaaP39x63
namespace Go.Proofs.Ytocnlpnlngnbnaa.P39
open Go.RowKit Go.Proofs.YtocnlpnlngnbnaaW.PrintWords Go.Proofs.YtocnlpnlngnbnaaW.PrintLast Go.Proofs.YtocnlpnlngnbnaaW.PrintMore
set_option linter.unusedVariables false
set_option linter.unusedSimpArgs false
namespace Pat
/-! ### A deckle -/
structure Good (W E T K : Int) : Prop where
  w0 : 1 ≤ W
  w1 : W ≤ 12000
  e0 : 0 ≤ E
  e1 : E ≤ (W - 1) / 2
  t0 : 0 ≤ T
  t1 : T ≤ W
  k0 : 1 ≤ K
  k1 : K ≤ 12
def Bad (U : Int) (l : List Int) : Prop := ∃ s ∈ l, s < 1 ∨ s > U
def Desc (l : List Int) : Prop := ∀ (i : Nat) (h : i + 1 < l.length), l[i + 1] < l[i]
open Classical in
noncomputable def sizes (U : Int) (l : List Int) : Int := if l.length = 0 then 10 else if 8 < l.length then 8 else if Bad U l then 20 else if Desc l then 0 else 9
open Classical in
noncomputable def err (W E T K : Int) (l : List Int) : Int := if Good W E T K then sizes (W - 2 * E) l else 1

theorem usable (W E T K : Int) (l : List Int) (g : Good W E T K) : pattern_usable.f W E T K l = some (W - 2 * E) := by
  have := g.w0; have := g.w1; have := g.e0; have := g.e1
  unfold pattern_usable.f wrap64
  congr 1
  omega
open Classical in
theorem ranges_l1 (W E T K : Int) (l : List Int) (h8 : l.length ≤ 8) (d : Nat) : ∀ i : Nat, i + d = l.length → 1 ≤ i →
    Ev (fun k => pattern_ranges.l1 k (i : Int) W E T K l) (if ∀ (j : Nat) (h : j + 1 < l.length), i ≤ j + 1 → l[j + 1] < l[j] then 0 else 9) := by
  induction d with
  | zero =>
    intro i hi h1
    rw [if_pos (fun j h hj => by omega)]
    refine Ev.step (fun k => ?_) (Ev.now 0)
    simp only [pattern_ranges.l1]
    rw [if_neg (by omega)]
  | succ d ih =>
    intro i hi h1
    obtain ⟨i, rfl⟩ : ∃ m, i = m + 1 := ⟨i - 1, by omega⟩
    have e1 : wrap64 (((i + 1 : Nat) : Int) - 1) = (i : Int) := by unfold wrap64; omega
    have e2 : wrap64 (((i + 1 : Nat) : Int) + 1) = ((i + 1 + 1 : Nat) : Int) := by unfold wrap64; omega
    by_cases hlt : l[i + 1]'(by omega) < l[i]'(by omega)
    · have := ih (i + 1 + 1) (by omega) (by omega)
      have hiff : (∀ (j : Nat) (h : j + 1 < l.length), i + 1 ≤ j + 1 → l[j + 1] < l[j]) ↔ (∀ (j : Nat) (h : j + 1 < l.length), i + 1 + 1 ≤ j + 1 → l[j + 1] < l[j]) :=
        ⟨fun h j hj hij => h j hj (by omega), fun h j hj hij => by
          rcases Nat.eq_or_lt_of_le hij with e | e
          · obtain rfl : j = i := by omega
            exact hlt
          · exact h j hj (by omega)⟩
      simp only [hiff]
      refine Ev.step (fun k => ?_) this
      simp only [pattern_ranges.l1]
      rw [if_pos (by omega), if_pos (by omega), e1, if_pos (by omega), if_pos (by omega), rd_at l (i + 1) (by omega), rd_at l i (by omega), if_neg (by omega), e2]
    · rw [if_neg (fun h => hlt (h i (by omega) (by omega)))]
      refine Ev.step (fun k => ?_) (Ev.now 9)
      simp only [pattern_ranges.l1]
      rw [if_pos (by omega), if_pos (by omega), e1, if_pos (by omega), if_pos (by omega), rd_at l (i + 1) (by omega), rd_at l i (by omega), if_pos (by omega)]
theorem bad_step (U : Int) (l : List Int) (i : Nat) (h : i < l.length) : Bad U (l.drop i) ↔ (l[i] < 1 ∨ l[i] > U) ∨ Bad U (l.drop (i + 1)) := by
  unfold Bad
  rw [List.drop_eq_getElem_cons h]
  simp only [List.mem_cons, exists_eq_or_imp]
theorem desc_one (l : List Int) : (∀ (j : Nat) (h : j + 1 < l.length), 1 ≤ j + 1 → l[j + 1] < l[j]) ↔ Desc l := ⟨fun h j hj => h j hj (by omega), fun h j hj _ => h j hj⟩

open Classical in
theorem ranges_l0 (W E T K : Int) (l : List Int) (g : Good W E T K) (h8 : l.length ≤ 8) (h0 : 0 < l.length) (d : Nat) : ∀ i : Nat, i + d = l.length →
    Ev (fun k => pattern_ranges.l0 k l (l.length : Int) (i : Int) W E T K l) (if Bad (W - 2 * E) (l.drop i) then 20 else if Desc l then 0 else 9) := by
  induction d with
  | zero =>
    intro i hi
    rw [if_neg (by rw [List.drop_eq_nil_of_le (by omega)]; rintro ⟨s, hs, _⟩; cases hs)]
    have := ranges_l1 W E T K l h8 (l.length - 1) 1 (by omega) (by omega)
    simp only [desc_one] at this
    refine Ev.step (fun k => ?_) this
    simp only [pattern_ranges.l0]
    rw [if_neg (by omega)]
    rfl
  | succ d ih =>
    intro i hi
    have e2 : wrap64 ((i : Int) + 1) = ((i + 1 : Nat) : Int) := by unfold wrap64; omega
    rw [bad_step _ _ i (by omega)]
    by_cases h1 : l[i]'(by omega) < 1
    · rw [if_pos (.inl (.inl h1))]
      refine Ev.step (fun k => ?_) (Ev.now 20)
      simp only [pattern_ranges.l0]
      rw [if_pos (by omega), if_pos (by omega), if_pos (by omega), rd_at l i (by omega), if_pos h1]
    · by_cases h2 : l[i]'(by omega) > W - 2 * E
      · rw [if_pos (.inl (.inr h2))]
        refine Ev.step (fun k => ?_) (Ev.now 20)
        simp only [pattern_ranges.l0]
        rw [if_pos (by omega), if_pos (by omega), if_pos (by omega), rd_at l i (by omega), if_neg h1, usable W E T K l g, Option.bind_some, if_pos h2]
      · have hiff : ((l[i]'(by omega) < 1 ∨ l[i]'(by omega) > W - 2 * E) ∨ Bad (W - 2 * E) (l.drop (i + 1))) ↔ Bad (W - 2 * E) (l.drop (i + 1)) := ⟨fun h => by
          rcases h with (h | h) | h
          · exact absurd h h1
          · exact absurd h h2
          · exact h, .inr⟩
        simp only [hiff]
        refine Ev.step (fun k => ?_) (ih (i + 1) (by omega))
        simp only [pattern_ranges.l0]
        rw [if_pos (by omega), if_pos (by omega), if_pos (by omega), rd_at l i (by omega), if_neg h1, usable W E T K l g, Option.bind_some, if_neg h2, e2]
theorem ranges_j0 (W E T K : Int) (l : List Int) (g : Good W E T K) : Ev (fun k => pattern_ranges.j0 k false W E T K l) (sizes (W - 2 * E) l) := by
  unfold sizes
  by_cases h0 : l.length = 0
  · rw [if_pos h0]
    refine Ev.step (fun k => ?_) (Ev.now 10)
    simp only [pattern_ranges.j0]
    rw [if_neg (by simp), if_pos (by omega)]
  · rw [if_neg h0]
    by_cases h8 : 8 < l.length
    · rw [if_pos h8]
      refine Ev.step (fun k => ?_) (Ev.now 8)
      simp only [pattern_ranges.j0]
      rw [if_neg (by simp), if_neg (by omega), if_pos (by omega)]
    · rw [if_neg h8]
      have := ranges_l0 W E T K l g (by omega) (by omega) l.length 0 (by omega)
      refine Ev.step (fun k => ?_) this
      simp only [pattern_ranges.j0]
      rw [if_neg (by simp), if_neg (by omega), if_neg (by omega)]
      rfl
theorem ranges_true (W E T K : Int) (l : List Int) : Ev (fun k => pattern_ranges.j0 k true W E T K l) 1 := Ev.step (fun k => by simp only [pattern_ranges.j0]; rw [if_pos trivial]) (Ev.now 1)
theorem half {W : Int} (h0 : 1 ≤ W) (h1 : W ≤ 12000) : wrap64 (Int.tdiv (wrap64 (W - 1)) 2) = (W - 1) / 2 := by
  rw [w64 (x := W - 1) (by omega) (by omega), Int.tdiv_eq_ediv_of_nonneg (by omega), w64 (by omega) (by omega)]

theorem ranges (W E T K : Int) (l : List Int) : Ev (fun k => pattern_ranges.f k W E T K l) (err W E T K l) := by
  unfold err pattern_ranges.f
  by_cases h1 : W < 1
  · rw [if_neg (fun g => by have := g.w0; omega)]
    simp only [if_pos h1]
    exact ranges_true W E T K l
  simp only [if_neg h1]
  by_cases h2 : W > 12000
  · rw [if_neg (fun g => by have := g.w1; omega)]
    simp only [if_pos h2]
    exact ranges_true W E T K l
  simp only [if_neg h2, half (show 1 ≤ W by omega) (show W ≤ 12000 by omega)]
  by_cases h3 : E < 0
  · rw [if_neg (fun g => by have := g.e0; omega)]
    simp only [if_pos h3]
    exact ranges_true W E T K l
  simp only [if_neg h3]
  by_cases h4 : E > (W - 1) / 2
  · rw [if_neg (fun g => by have := g.e1; omega)]
    simp only [if_pos h4]
    exact ranges_true W E T K l
  simp only [if_neg h4]
  by_cases h5 : T < 0
  · rw [if_neg (fun g => by have := g.t0; omega)]
    simp only [if_pos h5]
    exact ranges_true W E T K l
  simp only [if_neg h5]
  by_cases h6 : T > W
  · rw [if_neg (fun g => by have := g.t1; omega)]
    simp only [if_pos h6]
    exact ranges_true W E T K l
  simp only [if_neg h6]
  by_cases h7 : K < 1
  · rw [if_neg (fun g => by have := g.k0; omega)]
    simp only [if_pos h7]
    exact ranges_true W E T K l
  simp only [if_neg h7]
  by_cases h8 : K > 12
  · rw [if_neg (fun g => by have := g.k1; omega)]
    simp only [decide_eq_true h8]
    exact ranges_true W E T K l
  simp only [decide_eq_false h8]
  rw [if_pos ⟨by omega, by omega, by omega, by omega, by omega, by omega, by omega, by omega⟩]
  exact ranges_j0 W E T K l ⟨by omega, by omega, by omega, by omega, by omega, by omega, by omega, by omega⟩
/-- What a deckle that passes these checks is. -/
structure Deck (W E T K : Int) (l : List Int) : Prop where
  good : Good W E T K
  ne : 0 < l.length
  le : l.length ≤ 8
  rng : ∀ s ∈ l, 1 ≤ s ∧ s ≤ W - 2 * E
  desc : Desc l
theorem deck {W E T K : Int} {l : List Int} (h : err W E T K l = 0) : Deck W E T K l := by
  unfold err at h
  split at h
  · rename_i g
    unfold sizes at h
    split at h
    · omega
    split at h
    · omega
    split at h
    · omega
    split at h
    · rename_i h1 h2 h3 h4
      exact ⟨g, by omega, by omega, fun s hs => by
        have h5 : ¬ (s < 1 ∨ s > W - 2 * E) := fun h => h3 ⟨s, hs, h⟩
        omega, h4⟩
    · omega
  · omega
theorem deck_pre {W E T K : Int} {l : List Int} (d : Deck W E T K l) (m : Int) (h0 : 0 ≤ m) (h1 : m ≤ 4096) : pattern_list.Pre W E T K l m := by
  have g := d.good
  have := g.w0; have := g.w1; have := g.e0; have := g.e1; have := g.t0; have := g.t1; have := g.k0; have := g.k1
  exact ⟨by omega, by omega, by omega, by omega, by omega, by omega, by omega, by omega, d.le, d.ne, fun s hs => by have := d.rng s hs; omega, h0, h1⟩


def tot : List Int → Int
  | [] => 0
  | n :: c => n + tot c
def wid : List Int → List Int → Int
  | n :: c, s :: l => n * s + wid c l
  | _, _ => 0
theorem tot_append (a b : List Int) : tot (a ++ b) = tot a + tot b := by
  induction a with
  | nil => simp [tot]
  | cons x a ih => simp only [List.cons_append, tot, ih]; omega
theorem wid_append (a b l m : List Int) (h : a.length = l.length) : wid (a ++ b) (l ++ m) = wid a l + wid b m := by
  induction a generalizing l with
  | nil => cases l with
    | nil => simp [wid]
    | cons s l => simp at h
  | cons x a ih => cases l with
    | nil => simp at h
    | cons s l =>
      simp only [List.cons_append, wid, ih l (by simpa using h)]
      omega
theorem tot_nonneg (c : List Int) (h : ∀ x ∈ c, 0 ≤ x) : 0 ≤ tot c := by
  induction c with
  | nil => simp [tot]
  | cons x c ih =>
    have := h x (by simp)
    have := ih (fun y hy => h y (by simp [hy]))
    simp only [tot]
    omega
theorem tot_mem (c : List Int) (h : ∀ x ∈ c, 0 ≤ x) (x : Int) (hx : x ∈ c) : x ≤ tot c := by
  induction c with
  | nil => cases hx
  | cons y c ih =>
    have h1 := tot_nonneg c (fun z hz => h z (by simp [hz]))
    have h2 := h y (by simp)
    simp only [tot]
    rcases List.mem_cons.1 hx with rfl | hx
    · omega
    · have := ih (fun z hz => h z (by simp [hz])) hx
      omega
theorem tot_zero (c : List Int) (h : ∀ x ∈ c, 0 ≤ x) : tot c = 0 ↔ ∀ x ∈ c, x = 0 := by
  induction c with
  | nil => simp [tot]
  | cons y c ih =>
    have h1 := tot_nonneg c (fun z hz => h z (by simp [hz]))
    have h2 := h y (by simp)
    have h3 := ih (fun z hz => h z (by simp [hz]))
    simp only [tot, List.mem_cons, forall_eq_or_imp]
    constructor
    · intro h4
      exact ⟨by omega, h3.1 (by omega)⟩
    · rintro ⟨h4, h5⟩
      rw [h3.2 h5]
      omega

/-! ### The least and the greatest -/
theorem mn_lt (a b : Int) : mn a b < 0 ↔ a < 0 ∨ b < 0 := by unfold mn; split <;> omega
theorem fold_mn (l : List Int) (a : Int) : l.foldl mn a < 0 ↔ a < 0 ∨ ∃ x ∈ l, x < 0 := by
  induction l generalizing a with
  | nil => simp
  | cons x l ih =>
    rw [List.foldl_cons, ih, mn_lt]
    simp only [List.mem_cons, exists_eq_or_imp]
    constructor
    · rintro ((h | h) | h)
      · exact .inl h
      · exact .inr (.inl h)
      · exact .inr (.inr h)
    · rintro (h | h | h)
      · exact .inl (.inl h)
      · exact .inl (.inr h)
      · exact .inr h
theorem fold_mx (l : List Int) (a : Int) (h0 : 0 ≤ a) (h : ∀ x ∈ l, 0 ≤ x) : l.foldl mx a = 0 ↔ a = 0 ∧ ∀ x ∈ l, x = 0 := by
  induction l generalizing a with
  | nil => simp
  | cons x l ih =>
    have hx := h x (by simp)
    rw [List.foldl_cons, ih (mx a x) (by unfold mx; split <;> omega) (fun y hy => h y (by simp [hy]))]
    have : mx a x = 0 ↔ a = 0 ∧ x = 0 := by unfold mx; split <;> omega
    rw [this]
    simp only [List.mem_cons, forall_eq_or_imp]
    constructor
    · rintro ⟨⟨h1, h2⟩, h3⟩
      exact ⟨h1, h2, h3⟩
    · rintro ⟨h1, h2, h3⟩
      exact ⟨⟨h1, h2⟩, h3⟩
theorem rd_mem (l : List Int) (i : Nat) (h : i < l.length) : rd l (i : Int) ∈ l := by rw [rd_at l i h]; exact List.getElem_mem h
theorem drop_rd (l : List Int) (i : Nat) (h : i < l.length) : l.drop i = rd l (i : Int) :: l.drop (i + 1) := by rw [List.drop_eq_getElem_cons h, rd_at l i h]
theorem min_l0 (l : List Int) (hl : l.length ≤ 1000000) (d : Nat) : ∀ (i : Nat) (a : Int), i + d = l.length → Ev (fun k => slices_Min_int_int.l0 k l a (i : Int)) ((l.drop i).foldl mn a) := by
  induction d with
  | zero =>
    intro i a hi
    rw [List.drop_eq_nil_of_le (by omega)]
    refine Ev.step (fun k => ?_) (Ev.now a)
    rw [slices_Min_int_int.l0, if_neg (by omega)]
  | succ d ih =>
    intro i a hi
    rw [drop_rd l i (by omega), List.foldl_cons]
    refine Ev.step (fun k => ?_) (ih (i + 1) (mn a (rd l (i : Int))) (by omega))
    rw [slices_Min_int_int.l0, if_pos (by omega), if_pos (by omega), w64 (by omega) (by omega)]
    rfl
theorem max_l0 (l : List Int) (hl : l.length ≤ 1000000) (d : Nat) : ∀ (i : Nat) (a : Int), i + d = l.length → Ev (fun k => slices_Max_int_int.l0 k l a (i : Int)) ((l.drop i).foldl mx a) := by
  induction d with
  | zero =>
    intro i a hi
    rw [List.drop_eq_nil_of_le (by omega)]
    refine Ev.step (fun k => ?_) (Ev.now a)
    rw [slices_Max_int_int.l0, if_neg (by omega)]
  | succ d ih =>
    intro i a hi
    rw [drop_rd l i (by omega), List.foldl_cons]
    refine Ev.step (fun k => ?_) (ih (i + 1) (mx a (rd l (i : Int))) (by omega))
    rw [slices_Max_int_int.l0, if_pos (by omega), if_pos (by omega), w64 (by omega) (by omega)]
    rfl
theorem min_ev (l : List Int) (hl : l.length ≤ 1000000) (h0 : 0 < l.length) : ∃ m, Ev (fun k => slices_Min_int_int.f k l) m ∧ (m < 0 ↔ ∃ x ∈ l, x < 0) := by
  refine ⟨_, Ev.congr (fun k => ?_) (min_l0 l hl (l.length - 1) 1 (rd l 0) (by omega)), ?_⟩
  · rw [slices_Min_int_int.f, if_neg (by omega), if_pos (by omega)]
    rfl
  · rw [fold_mn]
    have := drop_rd l 0 h0
    rw [List.drop_zero] at this
    conv => rhs; rw [this]
    simp only [List.mem_cons, exists_eq_or_imp]
    rfl
theorem max_ev (l : List Int) (hl : l.length ≤ 1000000) (h0 : 0 < l.length) (hn : ∀ x ∈ l, 0 ≤ x) : ∃ m, Ev (fun k => slices_Max_int_int.f k l) m ∧ (m = 0 ↔ tot l = 0) := by
  refine ⟨_, Ev.congr (fun k => ?_) (max_l0 l hl (l.length - 1) 1 (rd l 0) (by omega)), ?_⟩
  · rw [slices_Max_int_int.f, if_neg (by omega), if_pos (by omega)]
    rfl
  · have := drop_rd l 0 h0
    rw [List.drop_zero] at this
    rw [tot_zero l hn, fold_mx _ _ (hn _ (by have := rd_mem l 0 h0; simpa using this)) (fun x hx => hn x (List.mem_of_mem_drop hx))]
    conv => rhs; rw [this]
    simp only [List.mem_cons, forall_eq_or_imp]
    rfl

/-! ### When a pattern fits -/
def tail4 (U T K n q : Int) : Int := if n = 0 then 10 else if K < n then 23 else if U < q then 20 else if T < U - q then 24 else 0
open Classical in
noncomputable def fitErr (W E T K : Int) (l c : List Int) : Int :=
  if c.length = l.length then (if ∃ x ∈ c, x < 0 then 1 else tail4 (W - 2 * E) T K (tot c) (wid c l)) else 3
def roomRes (T K n left : Int) : Int × Int × Int := if K < n then (0, 0, 23) else if left < 0 then (0, 0, 20) else if T < left then (0, 0, 24) else (n, left, 0)
theorem wid_drop (c l : List Int) (i : Nat) (h : i < c.length) (hl : c.length = l.length) : wid (c.drop i) (l.drop i) = rd c (i : Int) * rd l (i : Int) + wid (c.drop (i + 1)) (l.drop (i + 1)) := by
  rw [drop_rd c i h, drop_rd l i (by omega)]
  rfl
theorem tot_drop (c : List Int) (i : Nat) (h : i < c.length) : tot (c.drop i) = rd c (i : Int) + tot (c.drop (i + 1)) := by
  rw [drop_rd c i h]
  rfl
theorem mulb {n s a b : Int} (h0 : 0 ≤ n) (h1 : n ≤ a) (h2 : 0 ≤ s) (h3 : s ≤ b) (ha : 0 ≤ a) : 0 ≤ n * s ∧ n * s ≤ a * b := ⟨Int.mul_nonneg h0 h2, Int.le_trans (Int.mul_le_mul_of_nonneg_right h1 h2) (Int.mul_le_mul_of_nonneg_left h3 ha)⟩

theorem room_l0 (W E T K : Int) (l c : List Int) (dk : Deck W E T K l) (hl : c.length = l.length) (hn : ∀ x ∈ c, 0 ≤ x) (d : Nat) : ∀ (i : Nat) (p q : Int), i + d = c.length → 0 ≤ p → p ≤ K → (W - 2 * E) - 12000 * p ≤ q → q ≤ W - 2 * E →
    Ev (fun k => pattern_room.l0 k p q c (c.length : Int) (i : Int) W E T K l) (roomRes T K (p + tot (c.drop i)) (q - wid (c.drop i) (l.drop i))) := by
  have h8 := dk.le
  have g := dk.good
  have gw := g.w1
  have gk := g.k1
  have ge := g.e0
  have gw0 := g.w0
  have ge1 := g.e1
  induction d with
  | zero =>
    intro i p q hi hp0 hp1 hq0 hq1
    rw [List.drop_eq_nil_of_le (by omega), List.drop_eq_nil_of_le (by omega)]
    simp only [tot, wid, Int.add_zero, Int.sub_zero]
    refine Ev.congr (f := fun k => pattern_room.l0 k p q c (c.length : Int) (i : Int) W E T K l) (fun k => rfl) ?_
    unfold roomRes
    rw [if_neg (by omega)]
    by_cases h1 : q < 0
    · rw [if_pos h1]
      exact Ev.step (fun k => by rw [pattern_room.l0, if_neg (by omega), if_pos h1]) (Ev.now _)
    · rw [if_neg h1]
      by_cases h2 : T < q
      · rw [if_pos h2]
        exact Ev.step (fun k => by rw [pattern_room.l0, if_neg (by omega), if_neg h1, if_pos (by omega)]) (Ev.now _)
      · rw [if_neg h2]
        exact Ev.step (fun k => by rw [pattern_room.l0, if_neg (by omega), if_neg h1, if_neg (by omega)]) (Ev.now _)
  | succ d ih =>
    intro i p q hi hp0 hp1 hq0 hq1
    have hci := hn _ (rd_mem c i (by omega))
    have hrest := tot_nonneg (c.drop (i + 1)) (fun x hx => hn x (List.mem_of_mem_drop hx))
    have hs := dk.rng _ (rd_mem l i (by omega))
    rw [tot_drop c i (by omega), wid_drop c l i (by omega) hl]
    by_cases hbig : rd c (i : Int) > K - p
    · unfold roomRes
      rw [if_pos (by omega)]
      refine Ev.step (fun k => ?_) (Ev.now _)
      rw [pattern_room.l0, if_pos (by omega), if_pos (by omega), if_pos (by omega), w64 (x := K - p) (by omega) (by omega), if_pos hbig]
    · have hm := mulb hci (show rd c (i : Int) ≤ 12 by omega) (show 0 ≤ rd l (i : Int) by omega) (show rd l (i : Int) ≤ 12000 by omega) (by omega)
      have hm2 : rd c (i : Int) * rd l (i : Int) ≤ rd c (i : Int) * 12000 := Int.mul_le_mul_of_nonneg_left (by omega) hci
      have := ih (i + 1) (p + rd c (i : Int)) (q - rd c (i : Int) * rd l (i : Int)) (by omega) (by omega) (by omega) (by omega) (by omega)
      rw [show p + (rd c (i : Int) + tot (c.drop (i + 1))) = p + rd c (i : Int) + tot (c.drop (i + 1)) by omega, show q - (rd c (i : Int) * rd l (i : Int) + wid (c.drop (i + 1)) (l.drop (i + 1))) = q - rd c (i : Int) * rd l (i : Int) - wid (c.drop (i + 1)) (l.drop (i + 1)) by omega]
      refine Ev.step (fun k => ?_) this
      rw [pattern_room.l0, if_pos (by omega), if_pos (by omega), if_pos (by omega), w64 (x := K - p) (by omega) (by omega), if_neg hbig, if_pos (by omega), w64 (x := p + rd c (i : Int)) (by omega) (by omega), w64 (x := rd c (i : Int) * rd l (i : Int)) (by omega) (by omega), w64 (x := q - rd c (i : Int) * rd l (i : Int)) (by omega) (by omega), w64 (x := (i : Int) + 1) (by omega) (by omega)]
      rfl

open Classical in
noncomputable def roomOf (W E T K : Int) (l c : List Int) : Int × Int × Int := if fitErr W E T K l c = 0 then (tot c, W - 2 * E - wid c l, 0) else (0, 0, fitErr W E T K l c)
theorem room (W E T K : Int) (l c : List Int) (dk : Deck W E T K l) : Ev (fun k => pattern_room.f k W E T K l c) (roomOf W E T K l c) := by
  unfold roomOf
  have h8 := dk.le
  have h0 := dk.ne
  by_cases hl : c.length = l.length
  · obtain ⟨m, hm, hm0⟩ := min_ev c (by omega) (by omega)
    by_cases hneg : ∃ x ∈ c, x < 0
    · have e : fitErr W E T K l c = 1 := by unfold fitErr; rw [if_pos hl, if_pos hneg]
      rw [e, if_neg (by omega)]
      exact into hm (fun k hk => by rw [pattern_room.f, if_pos (by omega), hk, Option.bind_some, if_pos (hm0.2 hneg)]) (Ev.now _)
    · have hn : ∀ x ∈ c, 0 ≤ x := fun x hx => by
        rcases Int.lt_or_le x 0 with h | h
        · exact absurd ⟨x, hx, h⟩ hneg
        · exact h
      obtain ⟨M, hM, hM0⟩ := max_ev c (by omega) (by omega) hn
      have g := dk.good
      have hloop := room_l0 W E T K l c dk hl hn c.length 0 0 (W - 2 * E) (by omega) (by omega) (by have := g.k0; omega) (by omega) (by omega)
      simp only [List.drop_zero, Int.zero_add] at hloop
      have key : Ev (fun k => pattern_room.f k W E T K l c) (if tot c = 0 then (0, 0, 10) else roomRes T K (tot c) (W - 2 * E - wid c l)) := by
        refine into hm (f := fun k => (slices_Max_int_int.f k c).bind fun u => if u = 0 then some ((0 : Int), (0 : Int), (10 : Int)) else (pattern_usable.f W E T K l).bind fun v => pattern_room.l0 k 0 v c (c.length : Int) 0 W E T K l) (fun k hk => by rw [pattern_room.f, if_pos (by omega), hk, Option.bind_some, if_neg (fun h => hneg (hm0.1 h))]) ?_
        by_cases hz : tot c = 0
        · rw [if_pos hz]
          exact into hM (fun k hk => by rw [hk, Option.bind_some, if_pos (hM0.2 hz)]) (Ev.now _)
        · rw [if_neg hz]
          exact into hM (fun k hk => by rw [hk, Option.bind_some, if_neg (fun h => hz (hM0.1 h)), usable W E T K l g, Option.bind_some]; rfl) hloop
      have e : fitErr W E T K l c = tail4 (W - 2 * E) T K (tot c) (wid c l) := by unfold fitErr; rw [if_pos hl, if_neg hneg]
      have : (if fitErr W E T K l c = 0 then (tot c, W - 2 * E - wid c l, (0 : Int)) else (0, 0, fitErr W E T K l c)) = (if tot c = 0 then (0, 0, 10) else roomRes T K (tot c) (W - 2 * E - wid c l)) := by
        rw [e]
        unfold tail4 roomRes
        by_cases a1 : tot c = 0
        · simp [a1]
        · by_cases a2 : K < tot c
          · simp [a1, a2]
          · by_cases a3 : W - 2 * E < wid c l
            · simp [a1, a2, a3, show W - 2 * E - wid c l < 0 by omega]
            · by_cases a4 : T < W - 2 * E - wid c l
              · simp [a1, a2, a3, a4, show ¬ W - 2 * E - wid c l < 0 by omega]
              · simp [a1, a2, a3, a4, show ¬ W - 2 * E - wid c l < 0 by omega]
      rw [this]
      exact key
  · have e : fitErr W E T K l c = 3 := by unfold fitErr; rw [if_neg hl]
    rw [e, if_neg (by omega)]
    exact Ev.congr (fun k => by rw [pattern_room.f, if_neg (by omega)]) (Ev.now _)

/-! ### The reference's fits -/
def cap (c : List Int) : List Int := c.map fun x => mn x 12001
theorem cap_same (c : List Int) (h : ∀ x ∈ c, x ≤ 12001) : cap c = c := by
  unfold cap
  conv => rhs; rw [← List.map_id c]
  refine List.map_congr_left fun x hx => ?_
  have := h x hx
  unfold mn
  rw [if_neg (by omega)]
  rfl
theorem tail_cap (U T K : Int) (l c : List Int) (hn : ∀ x ∈ c, 0 ≤ x) (hK : K ≤ 12) : tail4 U T K (tot (cap c)) (wid (cap c) l) = tail4 U T K (tot c) (wid c l) := by
  by_cases h : ∀ x ∈ c, x ≤ 12001
  · rw [cap_same c h]
  · obtain ⟨x, hx, hb⟩ : ∃ x ∈ c, 12001 < x := Classical.byContradiction fun hc => h fun x hx => by
      rcases Int.lt_or_le 12001 x with h1 | h1
      · exact absurd ⟨x, hx, h1⟩ hc
      · exact h1
    have h1 := tot_mem c hn x hx
    have h2 := tot_mem (cap c) (fun y hy => by
      obtain ⟨z, hz, rfl⟩ := List.mem_map.1 hy
      have := hn z hz
      unfold mn
      split <;> omega) (mn x 12001) (List.mem_map.2 ⟨x, hx, rfl⟩)
    have h3 : mn x 12001 = 12001 := by unfold mn; rw [if_pos (by omega)]
    unfold tail4
    rw [if_neg (by omega), if_pos (by omega), if_neg (by omega), if_pos (by omega)]
/-- All completions of a pattern that begins with c. -/
def full (T K : Int) : List Int → List Int → Int → Int → List (List Int)
  | [], c, kn, left => if left ≤ T ∧ kn < K then [c] else []
  | s :: ss, c, kn, left => (List.range ((min kn (left / s)).toNat + 1)).reverse.flatMap fun (n : Nat) => full T K ss (c ++ [(n : Int)]) (kn - n) (left - n * s)

theorem fold_take {α : Type} (most : Nat) (step : List α → Nat → List α) (g : Nat → List α) (ns : List Nat) : ∀ out : List α, out.length ≤ most → (∀ n ∈ ns, ∀ o : List α, o.length ≤ most → step o n = (o ++ g n).take most) →
    ns.foldl step out = (out ++ ns.flatMap g).take most := by
  induction ns with
  | nil =>
    intro out h _
    simp [List.take_of_length_le h]
  | cons n ns ih =>
    intro out h hs
    rw [List.foldl_cons, hs n (by simp) out h, ih _ (by rw [List.length_take]; omega) (fun m hm => hs m (by simp [hm])), List.flatMap_cons]
    rw [← List.append_assoc]
    rcases Nat.le_total (out ++ g n).length most with h1 | h1
    · rw [List.take_of_length_le h1]
    · rw [List.take_append_of_le_length (by rw [List.length_take]; omega), List.take_append_of_le_length h1, List.take_take, Nat.min_self]

theorem range_mem {kn left s : Int} (hk : 0 ≤ kn) (hs : 1 ≤ s) (hl : 0 ≤ left) {n : Nat} (h : n ∈ (List.range ((min kn (left / s)).toNat + 1)).reverse) : (n : Int) ≤ kn ∧ (n : Int) * s ≤ left := by
  rw [List.mem_reverse, List.mem_range] at h
  have h0 : 0 ≤ left / s := Int.ediv_nonneg hl (by omega)
  have h1 : (n : Int) ≤ left / s := by omega
  refine ⟨by omega, Int.le_trans (Int.mul_le_mul_of_nonneg_right h1 (by omega)) (Int.ediv_mul_le _ (by omega))⟩

/-- Too narrow even with all knives. -/
theorem prune (T K : Int) (s : Int) (hs : 0 ≤ s) (ss : List Int) : ∀ (c : List Int) (kn left : Int), (∀ x ∈ ss, 1 ≤ x ∧ x ≤ s) → 0 ≤ kn → 0 ≤ left → left - kn * s > T → full T K ss c kn left = [] := by
  induction ss with
  | nil =>
    intro c kn left _ hk _ h
    have := Int.mul_nonneg hk hs
    rw [full, if_neg (by omega)]
  | cons x ss ih =>
    intro c kn left hx hk hl h
    rw [full, List.flatMap_eq_nil_iff]
    intro n hn
    have hx1 := hx x (by simp)
    have hr := range_mem hk hx1.1 hl hn
    refine ih _ _ _ (fun y hy => hx y (by simp [hy])) (by omega) (by omega) ?_
    have h1 : (n : Int) * x ≤ n * s := Int.mul_le_mul_of_nonneg_left hx1.2 (by omega)
    have h2 : (kn - n) * s = kn * s - n * s := Int.sub_mul ..
    omega
theorem desc_tail {s : Int} {ss : List Int} (h : Desc (s :: ss)) : Desc ss := fun i hi => h (i + 1) (by simpa using hi)
theorem desc_le {ss : List Int} : ∀ {s : Int}, Desc (s :: ss) → ∀ x ∈ ss, x ≤ s := by
  induction ss with
  | nil => intro s _ x hx; cases hx
  | cons y ss ih =>
    intro s h x hx
    have h1 := h 0 (by simp)
    simp at h1
    rcases List.mem_cons.1 hx with rfl | hx
    · omega
    · have := ih (desc_tail h) x hx
      omega
theorem run_eq (T K : Int) (most : Nat) (ss : List Int) : ∀ (c : List Int) (kn left : Int) (out : List (List Int)), Desc ss → (∀ x ∈ ss, 1 ≤ x) → 0 ≤ kn → 0 ≤ left → out.length ≤ most →
    pattern_list.run T K most ss c kn left out = (out ++ full T K ss c kn left).take most := by
  induction ss with
  | nil =>
    intro c kn left out _ _ _ _ ho
    rw [pattern_list.run, full]
    by_cases h : most ≤ out.length
    · rw [if_pos h, List.take_append_of_le_length h, List.take_of_length_le ho]
    · rw [if_neg h]
      by_cases h2 : left ≤ T ∧ kn < K
      · rw [if_pos h2, if_pos h2, List.take_of_length_le (by simp; omega)]
      · rw [if_neg h2, if_neg h2, List.append_nil, List.take_of_length_le ho]
  | cons s ss ih =>
    intro c kn left out hd h1 hk hl ho
    have hs := h1 s (by simp)
    rw [pattern_list.run]
    by_cases h : most ≤ out.length
    · rw [if_pos h, List.take_append_of_le_length h, List.take_of_length_le ho]
    · rw [if_neg h]
      by_cases h2 : left - kn * s > T
      · rw [if_pos h2, prune T K s (by omega) (s :: ss) c kn left (fun x hx => by
          rcases List.mem_cons.1 hx with rfl | hx
          · omega
          · exact ⟨h1 x (by simp [hx]), desc_le hd x hx⟩) hk hl h2, List.append_nil, List.take_of_length_le ho]
      · rw [if_neg h2, full]
        refine fold_take most _ _ _ out ho (fun n hn o hol => ?_)
        have hr := range_mem hk hs hl hn
        exact ih _ _ _ _ (desc_tail hd) (fun x hx => h1 x (by simp [hx])) (by omega) (by omega) hol

/-! ### The reference's -/
theorem fit_leaf (W E T K : Int) (l c : List Int) (dk : Deck W E T K l) (hl : c.length = l.length) (hn : ∀ x ∈ c, 0 ≤ x) (hk : 0 ≤ K - tot c) (hq : 0 ≤ W - 2 * E - wid c l) :
    fitErr W E T K l c = 0 ↔ W - 2 * E - wid c l ≤ T ∧ K - tot c < K := by
  have h0 := tot_nonneg c hn
  unfold fitErr
  rw [if_pos hl, if_neg (fun ⟨x, hx, h⟩ => by have := hn x hx; omega)]
  unfold tail4
  by_cases a1 : tot c = 0
  · rw [if_pos a1]; omega
  · rw [if_neg a1, if_neg (by omega), if_neg (by omega)]
    by_cases a4 : T < W - 2 * E - wid c l
    · rw [if_pos a4]; omega
    · rw [if_neg a4]; omega
theorem mn_min (a b : Int) : mn a b = min a b := by unfold mn; split <;> omega

def lim : Nat := 1025
/-- All patterns of a deckle that fit. -/
def pats (W E T K : Int) (l : List Int) : List (List Int) := full T K l [] K (W - 2 * E)
theorem usable_nonneg {W E T K : Int} (g : Good W E T K) : 0 ≤ W - 2 * E := by
  have := g.w0; have := g.e1
  omega
theorem list_f (W E T K : Int) (l : List Int) (dk : Deck W E T K l) (m : Nat) (hm : m ≤ 4096) : pattern_list.f W E T K l (m : Int) = some ((pats W E T K l).take m) := by
  unfold pattern_list.f
  rw [if_pos (deck_pre dk m (by omega) (by omega)), Int.toNat_natCast, run_eq T K m l [] K (W - 2 * E) [] dk.desc (fun x hx => (dk.rng x hx).1) (by have := dk.good.k0; omega) (usable_nonneg dk.good) (by simp), List.nil_append]
  rfl
noncomputable def checkErr (W E T K : Int) (l : List Int) : Int := if err W E T K l = 0 then (if 1024 < (pats W E T K l).length then 8 else 0) else err W E T K l
theorem check (W E T K : Int) (l : List Int) : Ev (fun k => pattern_Check.f k W E T K l) (checkErr W E T K l) := by
  unfold checkErr
  by_cases h : err W E T K l = 0
  · rw [if_pos h]
    have dk := deck h
    refine into (ranges W E T K l) (f := fun _ => some (if 1024 < (pats W E T K l).length then 8 else 0)) (fun k hk => ?_) (Ev.now _)
    have e := list_f W E T K l dk 1025 (by omega)
    rw [pattern_Check.f, hk, Option.bind_some, if_pos h, show (1025 : Int) = ((1025 : Nat) : Int) from rfl, e, Option.bind_some, List.length_take]
    by_cases h2 : 1024 < (pats W E T K l).length
    · rw [if_pos h2, if_pos (by omega)]
    · rw [if_neg h2, if_neg (by omega)]
  · rw [if_neg h]
    exact into (ranges W E T K l) (fun k hk => by rw [pattern_Check.f, hk, Option.bind_some, if_neg h]) (Ev.now _)
/-- A deckle that Check lets pass. -/
theorem deck_of_check {W E T K : Int} {l : List Int} (h : checkErr W E T K l = 0) : Deck W E T K l ∧ (pats W E T K l).length ≤ 1024 := by
  unfold checkErr at h
  split at h
  · rename_i h1
    split at h
    · omega
    · exact ⟨deck h1, by omega⟩
  · omega


noncomputable def FitsE (W E T K : Int) (l c : List Int) : Int := if checkErr W E T K l = 0 then fitErr W E T K l c else checkErr W E T K l
theorem room_err (W E T K : Int) (l c : List Int) : (roomOf W E T K l c).2.2 = fitErr W E T K l c := by
  unfold roomOf
  split
  · rename_i h
    exact h.symm
  · rfl
theorem FitsP (W E T K : Int) (l c : List Int) : Ev (fun k => pattern_Fits.f k W E T K l c) (FitsE W E T K l c) := by
  unfold FitsE
  by_cases h : checkErr W E T K l = 0
  · rw [if_pos h]
    have dk := (deck_of_check h).1
    refine into (check W E T K l) (f := fun k => (pattern_room.f k W E T K l c).bind fun b => some b.2.2) (fun k hk => by rw [pattern_Fits.f, hk, Option.bind_some, if_pos h]) ?_
    exact into (room W E T K l c dk) (fun k hk => by rw [hk, Option.bind_some, room_err]) (Ev.now _)
  · rw [if_neg h]
    exact into (check W E T K l) (fun k hk => by rw [pattern_Fits.f, hk, Option.bind_some, if_neg h]) (Ev.now _)
noncomputable def LeftV (W E T K : Int) (l c : List Int) : Int × Int := if FitsE W E T K l c = 0 then (W - 2 * E - wid c l, 0) else (0, FitsE W E T K l c)
theorem fits_ok {W E T K : Int} {l c : List Int} (h : FitsE W E T K l c = 0) : Deck W E T K l ∧ (pats W E T K l).length ≤ 1024 ∧ fitErr W E T K l c = 0 := by
  unfold FitsE at h
  split at h
  · rename_i h1
    exact ⟨(deck_of_check h1).1, (deck_of_check h1).2, h⟩
  · rename_i h1
    exact absurd h h1
theorem FitsE_of {W E T K : Int} {l c : List Int} (h : checkErr W E T K l = 0) : FitsE W E T K l c = fitErr W E T K l c := if_pos h
theorem check_of_fits {W E T K : Int} {l c : List Int} (h : FitsE W E T K l c = 0) : checkErr W E T K l = 0 := by
  unfold FitsE at h
  split at h
  · assumption
  · rename_i h1
    exact absurd h h1
/-- What a pattern that fits is. -/
structure Fit (W E T K : Int) (l c : List Int) : Prop where
  len : c.length = l.length
  nn : ∀ x ∈ c, 0 ≤ x
  pos : 1 ≤ tot c
  le : tot c ≤ K
  fit : Pat.wid c l ≤ W - 2 * E
  trim : W - 2 * E - Pat.wid c l ≤ T
theorem fit_iff (W E T K : Int) (l c : List Int) : fitErr W E T K l c = 0 ↔ Fit W E T K l c := by
  unfold fitErr
  by_cases hl : c.length = l.length
  · rw [if_pos hl]
    by_cases hn : ∃ x ∈ c, x < 0
    · rw [if_pos hn]
      exact ⟨fun h => by omega, fun h => by obtain ⟨x, hx, h1⟩ := hn; have := h.nn x hx; omega⟩
    · rw [if_neg hn]
      have hnn : ∀ x ∈ c, 0 ≤ x := fun x hx => by
        rcases Int.lt_or_le x 0 with h | h
        · exact absurd ⟨x, hx, h⟩ hn
        · exact h
      have h0 := tot_nonneg c hnn
      unfold tail4
      constructor
      · intro h
        by_cases a1 : tot c = 0
        · rw [if_pos a1] at h; omega
        rw [if_neg a1] at h
        by_cases a2 : K < tot c
        · rw [if_pos a2] at h; omega
        rw [if_neg a2] at h
        by_cases a3 : W - 2 * E < wid c l
        · rw [if_pos a3] at h; omega
        rw [if_neg a3] at h
        by_cases a4 : T < W - 2 * E - wid c l
        · rw [if_pos a4] at h; omega
        exact ⟨hl, hnn, by omega, by omega, by omega, by omega⟩
      · intro h
        have := h.pos; have := h.le; have := h.fit; have := h.trim
        rw [if_neg (by omega), if_neg (by omega), if_neg (by omega), if_neg (by omega)]
  · rw [if_neg hl]
    exact ⟨fun h => by omega, fun h => absurd h.len hl⟩

theorem LeftP (W E T K : Int) (l c : List Int) : Ev (fun k => pattern_Left.f k W E T K l c) (LeftV W E T K l c) := by
  unfold LeftV FitsE
  by_cases h : checkErr W E T K l = 0
  · rw [if_pos h]
    have dk := (deck_of_check h).1
    refine into (check W E T K l) (f := fun k => (pattern_room.f k W E T K l c).bind fun b => some (b.2.1, b.2.2)) (fun k hk => by rw [pattern_Left.f, hk, Option.bind_some, if_pos h]) ?_
    refine into (room W E T K l c dk) (fun k hk => ?_) (Ev.now _)
    rw [hk, Option.bind_some]
    unfold roomOf
    by_cases h1 : fitErr W E T K l c = 0
    · rw [if_pos h1, if_pos h1]
    · rw [if_neg h1, if_neg h1]
  · rw [if_neg h, if_neg h]
    exact into (check W E T K l) (fun k hk => by rw [pattern_Left.f, hk, Option.bind_some, if_neg h]) (Ev.now _)

end Pat
end Go.Proofs.Ytocnlpnlngnbnaa.P39
