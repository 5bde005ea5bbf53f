/- Patterns: when one fits (room of the program, fits of the reference), and the list of all that fit (the program's, cut where it is too long; the reference's). -/
import Derived.Test.YtebhilnnbjkbeaaPat1
import Derived.Test.YtebhilnnbjkbeaaP38x7
import Derived.Test.YtebhilnnbjkbeaaP38x8
import Derived.Test.YtebhilnnbjkbeaaP38x9
import Derived.Test.YtebhilnnbjkbeaaP38x21
import Derived.Test.YtebhilnnbjkbeaaP38x22
namespace Go.Proofs.Ytebhilnnbjkbeaa.P38
open Go.RowKit Go.Proofs.YtebhilnnbjkbeaaW.PrintWords Go.Proofs.YtebhilnnbjkbeaaW.PrintLast Go.Proofs.YtebhilnnbjkbeaaW.PrintMore
set_option linter.unusedVariables false
set_option linter.unusedSimpArgs false
namespace Pat

/-- What a function tells once a part of it is known. -/
theorem into {α β : Type} {g : Nat → Option α} {F f : Nat → Option β} {a : α} {r : β} (h : Ev g a) (e : ∀ n, g n = some a → F n = f n) (k : Ev f r) : Ev F r := by
  obtain ⟨K, h⟩ := h
  obtain ⟨K', k⟩ := k
  exact ⟨max K K', fun n hn => (e n (h n (by omega))).trans (k n (by omega))⟩
def tot : List Int → Int
  | [] => 0
  | n :: c => n + tot c
def wid : List Int → List Int → Int
  | n :: c, s :: l => n * s + wid c l
  | _, _ => 0
theorem tot_append (a b : List Int) : tot (a ++ b) = tot a + tot b := by
  induction a with
  | nil => simp [tot]
  | cons x a ih => simp only [List.cons_append, tot, ih]; omega
theorem wid_append (a b l m : List Int) (h : a.length = l.length) : wid (a ++ b) (l ++ m) = wid a l + wid b m := by
  induction a generalizing l with
  | nil => cases l with
    | nil => simp [wid]
    | cons s l => simp at h
  | cons x a ih => cases l with
    | nil => simp at h
    | cons s l =>
      simp only [List.cons_append, wid, ih l (by simpa using h)]
      omega
theorem tot_nonneg (c : List Int) (h : ∀ x ∈ c, 0 ≤ x) : 0 ≤ tot c := by
  induction c with
  | nil => simp [tot]
  | cons x c ih =>
    have := h x (by simp)
    have := ih (fun y hy => h y (by simp [hy]))
    simp only [tot]
    omega
theorem tot_mem (c : List Int) (h : ∀ x ∈ c, 0 ≤ x) (x : Int) (hx : x ∈ c) : x ≤ tot c := by
  induction c with
  | nil => cases hx
  | cons y c ih =>
    have h1 := tot_nonneg c (fun z hz => h z (by simp [hz]))
    have h2 := h y (by simp)
    simp only [tot]
    rcases List.mem_cons.1 hx with rfl | hx
    · omega
    · have := ih (fun z hz => h z (by simp [hz])) hx
      omega
theorem tot_zero (c : List Int) (h : ∀ x ∈ c, 0 ≤ x) : tot c = 0 ↔ ∀ x ∈ c, x = 0 := by
  induction c with
  | nil => simp [tot]
  | cons y c ih =>
    have h1 := tot_nonneg c (fun z hz => h z (by simp [hz]))
    have h2 := h y (by simp)
    have h3 := ih (fun z hz => h z (by simp [hz]))
    simp only [tot, List.mem_cons, forall_eq_or_imp]
    constructor
    · intro h4
      exact ⟨by omega, h3.1 (by omega)⟩
    · rintro ⟨h4, h5⟩
      rw [h3.2 h5]
      omega

/-! ### The least and the greatest -/
theorem mn_lt (a b : Int) : mn a b < 0 ↔ a < 0 ∨ b < 0 := by unfold mn; split <;> omega
theorem fold_mn (l : List Int) (a : Int) : l.foldl mn a < 0 ↔ a < 0 ∨ ∃ x ∈ l, x < 0 := by
  induction l generalizing a with
  | nil => simp
  | cons x l ih =>
    rw [List.foldl_cons, ih, mn_lt]
    simp only [List.mem_cons, exists_eq_or_imp]
    constructor
    · rintro ((h | h) | h)
      · exact .inl h
      · exact .inr (.inl h)
      · exact .inr (.inr h)
    · rintro (h | h | h)
      · exact .inl (.inl h)
      · exact .inl (.inr h)
      · exact .inr h
theorem fold_mx (l : List Int) (a : Int) (h0 : 0 ≤ a) (h : ∀ x ∈ l, 0 ≤ x) : l.foldl mx a = 0 ↔ a = 0 ∧ ∀ x ∈ l, x = 0 := by
  induction l generalizing a with
  | nil => simp
  | cons x l ih =>
    have hx := h x (by simp)
    rw [List.foldl_cons, ih (mx a x) (by unfold mx; split <;> omega) (fun y hy => h y (by simp [hy]))]
    have : mx a x = 0 ↔ a = 0 ∧ x = 0 := by unfold mx; split <;> omega
    rw [this]
    simp only [List.mem_cons, forall_eq_or_imp]
    constructor
    · rintro ⟨⟨h1, h2⟩, h3⟩
      exact ⟨h1, h2, h3⟩
    · rintro ⟨h1, h2, h3⟩
      exact ⟨⟨h1, h2⟩, h3⟩
theorem rd_mem (l : List Int) (i : Nat) (h : i < l.length) : rd l (i : Int) ∈ l := by rw [rd_at l i h]; exact List.getElem_mem h
theorem drop_rd (l : List Int) (i : Nat) (h : i < l.length) : l.drop i = rd l (i : Int) :: l.drop (i + 1) := by rw [List.drop_eq_getElem_cons h, rd_at l i h]
theorem min_l0 (l : List Int) (hl : l.length ≤ 1000000) (d : Nat) : ∀ (i : Nat) (a : Int), i + d = l.length → Ev (fun k => slices_Min_int_int.l0 k l a (i : Int)) ((l.drop i).foldl mn a) := by
  induction d with
  | zero =>
    intro i a hi
    rw [List.drop_eq_nil_of_le (by omega)]
    refine Ev.step (fun k => ?_) (Ev.now a)
    rw [slices_Min_int_int.l0, if_neg (by omega)]
  | succ d ih =>
    intro i a hi
    rw [drop_rd l i (by omega), List.foldl_cons]
    refine Ev.step (fun k => ?_) (ih (i + 1) (mn a (rd l (i : Int))) (by omega))
    rw [slices_Min_int_int.l0, if_pos (by omega), if_pos (by omega), w64 (by omega) (by omega)]
    rfl
theorem max_l0 (l : List Int) (hl : l.length ≤ 1000000) (d : Nat) : ∀ (i : Nat) (a : Int), i + d = l.length → Ev (fun k => slices_Max_int_int.l0 k l a (i : Int)) ((l.drop i).foldl mx a) := by
  induction d with
  | zero =>
    intro i a hi
    rw [List.drop_eq_nil_of_le (by omega)]
    refine Ev.step (fun k => ?_) (Ev.now a)
    rw [slices_Max_int_int.l0, if_neg (by omega)]
  | succ d ih =>
    intro i a hi
    rw [drop_rd l i (by omega), List.foldl_cons]
    refine Ev.step (fun k => ?_) (ih (i + 1) (mx a (rd l (i : Int))) (by omega))
    rw [slices_Max_int_int.l0, if_pos (by omega), if_pos (by omega), w64 (by omega) (by omega)]
    rfl
theorem min_ev (l : List Int) (hl : l.length ≤ 1000000) (h0 : 0 < l.length) : ∃ m, Ev (fun k => slices_Min_int_int.f k l) m ∧ (m < 0 ↔ ∃ x ∈ l, x < 0) := by
  refine ⟨_, Ev.congr (fun k => ?_) (min_l0 l hl (l.length - 1) 1 (rd l 0) (by omega)), ?_⟩
  · rw [slices_Min_int_int.f, if_neg (by omega), if_pos (by omega)]
    rfl
  · rw [fold_mn]
    have := drop_rd l 0 h0
    rw [List.drop_zero] at this
    conv => rhs; rw [this]
    simp only [List.mem_cons, exists_eq_or_imp]
    rfl
theorem max_ev (l : List Int) (hl : l.length ≤ 1000000) (h0 : 0 < l.length) (hn : ∀ x ∈ l, 0 ≤ x) : ∃ m, Ev (fun k => slices_Max_int_int.f k l) m ∧ (m = 0 ↔ tot l = 0) := by
  refine ⟨_, Ev.congr (fun k => ?_) (max_l0 l hl (l.length - 1) 1 (rd l 0) (by omega)), ?_⟩
  · rw [slices_Max_int_int.f, if_neg (by omega), if_pos (by omega)]
    rfl
  · have := drop_rd l 0 h0
    rw [List.drop_zero] at this
    rw [tot_zero l hn, fold_mx _ _ (hn _ (by have := rd_mem l 0 h0; simpa using this)) (fun x hx => hn x (List.mem_of_mem_drop hx))]
    conv => rhs; rw [this]
    simp only [List.mem_cons, forall_eq_or_imp]
    rfl

/-! ### When a pattern fits -/
def tail4 (U T K n q : Int) : Int := if n = 0 then 10 else if K < n then 23 else if U < q then 20 else if T < U - q then 24 else 0
open Classical in
noncomputable def fitErr (W E T K : Int) (l c : List Int) : Int :=
  if c.length = l.length then (if ∃ x ∈ c, x < 0 then 1 else tail4 (W - 2 * E) T K (tot c) (wid c l)) else 3
def roomRes (T K n left : Int) : Int × Int × Int := if K < n then (0, 0, 23) else if left < 0 then (0, 0, 20) else if T < left then (0, 0, 24) else (n, left, 0)
theorem wid_drop (c l : List Int) (i : Nat) (h : i < c.length) (hl : c.length = l.length) : wid (c.drop i) (l.drop i) = rd c (i : Int) * rd l (i : Int) + wid (c.drop (i + 1)) (l.drop (i + 1)) := by
  rw [drop_rd c i h, drop_rd l i (by omega)]
  rfl
theorem tot_drop (c : List Int) (i : Nat) (h : i < c.length) : tot (c.drop i) = rd c (i : Int) + tot (c.drop (i + 1)) := by
  rw [drop_rd c i h]
  rfl
theorem mulb {n s a b : Int} (h0 : 0 ≤ n) (h1 : n ≤ a) (h2 : 0 ≤ s) (h3 : s ≤ b) (ha : 0 ≤ a) : 0 ≤ n * s ∧ n * s ≤ a * b := ⟨Int.mul_nonneg h0 h2, Int.le_trans (Int.mul_le_mul_of_nonneg_right h1 h2) (Int.mul_le_mul_of_nonneg_left h3 ha)⟩

theorem room_l0 (W E T K : Int) (l c : List Int) (dk : Deck W E T K l) (hl : c.length = l.length) (hn : ∀ x ∈ c, 0 ≤ x) (d : Nat) : ∀ (i : Nat) (p q : Int), i + d = c.length → 0 ≤ p → p ≤ K → (W - 2 * E) - 12000 * p ≤ q → q ≤ W - 2 * E →
    Ev (fun k => pattern_room.l0 k p q c (c.length : Int) (i : Int) W E T K l) (roomRes T K (p + tot (c.drop i)) (q - wid (c.drop i) (l.drop i))) := by
  have h8 := dk.le
  have g := dk.good
  have gw := g.w1
  have gk := g.k1
  have ge := g.e0
  have gw0 := g.w0
  have ge1 := g.e1
  induction d with
  | zero =>
    intro i p q hi hp0 hp1 hq0 hq1
    rw [List.drop_eq_nil_of_le (by omega), List.drop_eq_nil_of_le (by omega)]
    simp only [tot, wid, Int.add_zero, Int.sub_zero]
    refine Ev.congr (f := fun k => pattern_room.l0 k p q c (c.length : Int) (i : Int) W E T K l) (fun k => rfl) ?_
    unfold roomRes
    rw [if_neg (by omega)]
    by_cases h1 : q < 0
    · rw [if_pos h1]
      exact Ev.step (fun k => by rw [pattern_room.l0, if_neg (by omega), if_pos h1]) (Ev.now _)
    · rw [if_neg h1]
      by_cases h2 : T < q
      · rw [if_pos h2]
        exact Ev.step (fun k => by rw [pattern_room.l0, if_neg (by omega), if_neg h1, if_pos (by omega)]) (Ev.now _)
      · rw [if_neg h2]
        exact Ev.step (fun k => by rw [pattern_room.l0, if_neg (by omega), if_neg h1, if_neg (by omega)]) (Ev.now _)
  | succ d ih =>
    intro i p q hi hp0 hp1 hq0 hq1
    have hci := hn _ (rd_mem c i (by omega))
    have hrest := tot_nonneg (c.drop (i + 1)) (fun x hx => hn x (List.mem_of_mem_drop hx))
    have hs := dk.rng _ (rd_mem l i (by omega))
    rw [tot_drop c i (by omega), wid_drop c l i (by omega) hl]
    by_cases hbig : rd c (i : Int) > K - p
    · unfold roomRes
      rw [if_pos (by omega)]
      refine Ev.step (fun k => ?_) (Ev.now _)
      rw [pattern_room.l0, if_pos (by omega), if_pos (by omega), if_pos (by omega), w64 (x := K - p) (by omega) (by omega), if_pos hbig]
    · have hm := mulb hci (show rd c (i : Int) ≤ 12 by omega) (show 0 ≤ rd l (i : Int) by omega) (show rd l (i : Int) ≤ 12000 by omega) (by omega)
      have hm2 : rd c (i : Int) * rd l (i : Int) ≤ rd c (i : Int) * 12000 := Int.mul_le_mul_of_nonneg_left (by omega) hci
      have := ih (i + 1) (p + rd c (i : Int)) (q - rd c (i : Int) * rd l (i : Int)) (by omega) (by omega) (by omega) (by omega) (by omega)
      rw [show p + (rd c (i : Int) + tot (c.drop (i + 1))) = p + rd c (i : Int) + tot (c.drop (i + 1)) by omega, show q - (rd c (i : Int) * rd l (i : Int) + wid (c.drop (i + 1)) (l.drop (i + 1))) = q - rd c (i : Int) * rd l (i : Int) - wid (c.drop (i + 1)) (l.drop (i + 1)) by omega]
      refine Ev.step (fun k => ?_) this
      rw [pattern_room.l0, if_pos (by omega), if_pos (by omega), if_pos (by omega), w64 (x := K - p) (by omega) (by omega), if_neg hbig, if_pos (by omega), w64 (x := p + rd c (i : Int)) (by omega) (by omega), w64 (x := rd c (i : Int) * rd l (i : Int)) (by omega) (by omega), w64 (x := q - rd c (i : Int) * rd l (i : Int)) (by omega) (by omega), w64 (x := (i : Int) + 1) (by omega) (by omega)]
      rfl

open Classical in
noncomputable def roomOf (W E T K : Int) (l c : List Int) : Int × Int × Int := if fitErr W E T K l c = 0 then (tot c, W - 2 * E - wid c l, 0) else (0, 0, fitErr W E T K l c)
theorem room (W E T K : Int) (l c : List Int) (dk : Deck W E T K l) : Ev (fun k => pattern_room.f k W E T K l c) (roomOf W E T K l c) := by
  unfold roomOf
  have h8 := dk.le
  have h0 := dk.ne
  by_cases hl : c.length = l.length
  · obtain ⟨m, hm, hm0⟩ := min_ev c (by omega) (by omega)
    by_cases hneg : ∃ x ∈ c, x < 0
    · have e : fitErr W E T K l c = 1 := by unfold fitErr; rw [if_pos hl, if_pos hneg]
      rw [e, if_neg (by omega)]
      exact into hm (fun k hk => by rw [pattern_room.f, if_pos (by omega), hk, Option.bind_some, if_pos (hm0.2 hneg)]) (Ev.now _)
    · have hn : ∀ x ∈ c, 0 ≤ x := fun x hx => by
        rcases Int.lt_or_le x 0 with h | h
        · exact absurd ⟨x, hx, h⟩ hneg
        · exact h
      obtain ⟨M, hM, hM0⟩ := max_ev c (by omega) (by omega) hn
      have g := dk.good
      have hloop := room_l0 W E T K l c dk hl hn c.length 0 0 (W - 2 * E) (by omega) (by omega) (by have := g.k0; omega) (by omega) (by omega)
      simp only [List.drop_zero, Int.zero_add] at hloop
      have key : Ev (fun k => pattern_room.f k W E T K l c) (if tot c = 0 then (0, 0, 10) else roomRes T K (tot c) (W - 2 * E - wid c l)) := by
        refine into hm (f := fun k => (slices_Max_int_int.f k c).bind fun u => if u = 0 then some ((0 : Int), (0 : Int), (10 : Int)) else (pattern_usable.f W E T K l).bind fun v => pattern_room.l0 k 0 v c (c.length : Int) 0 W E T K l) (fun k hk => by rw [pattern_room.f, if_pos (by omega), hk, Option.bind_some, if_neg (fun h => hneg (hm0.1 h))]) ?_
        by_cases hz : tot c = 0
        · rw [if_pos hz]
          exact into hM (fun k hk => by rw [hk, Option.bind_some, if_pos (hM0.2 hz)]) (Ev.now _)
        · rw [if_neg hz]
          exact into hM (fun k hk => by rw [hk, Option.bind_some, if_neg (fun h => hz (hM0.1 h)), usable W E T K l g, Option.bind_some]; rfl) hloop
      have e : fitErr W E T K l c = tail4 (W - 2 * E) T K (tot c) (wid c l) := by unfold fitErr; rw [if_pos hl, if_neg hneg]
      have : (if fitErr W E T K l c = 0 then (tot c, W - 2 * E - wid c l, (0 : Int)) else (0, 0, fitErr W E T K l c)) = (if tot c = 0 then (0, 0, 10) else roomRes T K (tot c) (W - 2 * E - wid c l)) := by
        rw [e]
        unfold tail4 roomRes
        by_cases a1 : tot c = 0
        · simp [a1]
        · by_cases a2 : K < tot c
          · simp [a1, a2]
          · by_cases a3 : W - 2 * E < wid c l
            · simp [a1, a2, a3, show W - 2 * E - wid c l < 0 by omega]
            · by_cases a4 : T < W - 2 * E - wid c l
              · simp [a1, a2, a3, a4, show ¬ W - 2 * E - wid c l < 0 by omega]
              · simp [a1, a2, a3, a4, show ¬ W - 2 * E - wid c l < 0 by omega]
      rw [this]
      exact key
  · have e : fitErr W E T K l c = 3 := by unfold fitErr; rw [if_neg hl]
    rw [e, if_neg (by omega)]
    exact Ev.congr (fun k => by rw [pattern_room.f, if_neg (by omega)]) (Ev.now _)

/-! ### The reference's fits -/
def cap (c : List Int) : List Int := c.map fun x => mn x 12001
theorem fits_l1 (W E T K : Int) (l c : List Int) (dk : Deck W E T K l) (hl : c.length = l.length) (hn : ∀ x ∈ c, 0 ≤ x) (d : Nat) : ∀ (i : Nat) (a b : Int), i + d = c.length → 0 ≤ a → a ≤ 12001 * i → 0 ≤ b → b ≤ 144012000 * i →
    Ev (fun k => papermillref38_fits.l1 k c a b (i : Int) W E T K l) (tail4 (W - 2 * E) T K (a + tot (cap (c.drop i))) (b + wid (cap (c.drop i)) (l.drop i))) := by
  have h8 := dk.le
  have g := dk.good
  have gw := g.w1
  have gk := g.k1
  have ge := g.e0
  have gw0 := g.w0
  have ge1 := g.e1
  induction d with
  | zero =>
    intro i a b hi ha0 ha1 hb0 hb1
    rw [List.drop_eq_nil_of_le (by omega), List.drop_eq_nil_of_le (by omega)]
    simp only [cap, List.map_nil, tot, wid, Int.add_zero]
    unfold tail4
    by_cases h1 : a = 0
    · rw [if_pos h1]
      exact Ev.step (fun k => by rw [papermillref38_fits.l1, if_neg (by omega), if_pos h1]) (Ev.now _)
    · rw [if_neg h1]
      by_cases h2 : K < a
      · rw [if_pos h2]
        exact Ev.step (fun k => by rw [papermillref38_fits.l1, if_neg (by omega), if_neg h1, if_pos (by omega)]) (Ev.now _)
      · rw [if_neg h2]
        by_cases h3 : W - 2 * E < b
        · rw [if_pos h3]
          exact Ev.step (fun k => by rw [papermillref38_fits.l1, if_neg (by omega), if_neg h1, if_neg (by omega), usableR W E T K l g, Option.bind_some, if_pos (by omega)]) (Ev.now _)
        · rw [if_neg h3]
          by_cases h4 : T < W - 2 * E - b
          · rw [if_pos h4]
            exact Ev.step (fun k => by rw [papermillref38_fits.l1, if_neg (by omega), if_neg h1, if_neg (by omega), usableR W E T K l g, Option.bind_some, if_neg (by omega), Option.bind_some, w64 (by omega) (by omega), if_pos (by omega)]) (Ev.now _)
          · rw [if_neg h4]
            exact Ev.step (fun k => by rw [papermillref38_fits.l1, if_neg (by omega), if_neg h1, if_neg (by omega), usableR W E T K l g, Option.bind_some, if_neg (by omega), Option.bind_some, w64 (by omega) (by omega), if_neg (by omega)]) (Ev.now _)
  | succ d ih =>
    intro i a b hi ha0 ha1 hb0 hb1
    have hci := hn _ (rd_mem c i (by omega))
    have hs := dk.rng _ (rd_mem l i (by omega))
    have hm0 : 0 ≤ mn (rd c (i : Int)) 12001 ∧ mn (rd c (i : Int)) 12001 ≤ 12001 := by unfold mn; split <;> omega
    have hm := mulb hm0.1 hm0.2 (show 0 ≤ rd l (i : Int) by omega) (show rd l (i : Int) ≤ 12000 by omega) (by omega)
    have := ih (i + 1) (a + mn (rd c (i : Int)) 12001) (b + mn (rd c (i : Int)) 12001 * rd l (i : Int)) (by omega) (by omega) (by omega) (by omega) (by omega)
    rw [drop_rd c i (by omega), drop_rd l i (by omega)]
    simp only [cap, List.map_cons, tot, wid] at this ⊢
    rw [← Int.add_assoc, ← Int.add_assoc]
    refine Ev.step (fun k => ?_) this
    rw [papermillref38_fits.l1, if_pos (by omega), if_pos (by omega), if_pos (by omega), w64 (x := a + mn (rd c (i : Int)) 12001) (by omega) (by omega), w64 (x := mn (rd c (i : Int)) 12001 * rd l (i : Int)) (by omega) (by omega), w64 (x := b + mn (rd c (i : Int)) 12001 * rd l (i : Int)) (by omega) (by omega), w64 (x := (i : Int) + 1) (by omega) (by omega)]
    rfl
theorem cap_same (c : List Int) (h : ∀ x ∈ c, x ≤ 12001) : cap c = c := by
  unfold cap
  conv => rhs; rw [← List.map_id c]
  refine List.map_congr_left fun x hx => ?_
  have := h x hx
  unfold mn
  rw [if_neg (by omega)]
  rfl
theorem tail_cap (U T K : Int) (l c : List Int) (hn : ∀ x ∈ c, 0 ≤ x) (hK : K ≤ 12) : tail4 U T K (tot (cap c)) (wid (cap c) l) = tail4 U T K (tot c) (wid c l) := by
  by_cases h : ∀ x ∈ c, x ≤ 12001
  · rw [cap_same c h]
  · obtain ⟨x, hx, hb⟩ : ∃ x ∈ c, 12001 < x := Classical.byContradiction fun hc => h fun x hx => by
      rcases Int.lt_or_le 12001 x with h1 | h1
      · exact absurd ⟨x, hx, h1⟩ hc
      · exact h1
    have h1 := tot_mem c hn x hx
    have h2 := tot_mem (cap c) (fun y hy => by
      obtain ⟨z, hz, rfl⟩ := List.mem_map.1 hy
      have := hn z hz
      unfold mn
      split <;> omega) (mn x 12001) (List.mem_map.2 ⟨x, hx, rfl⟩)
    have h3 : mn x 12001 = 12001 := by unfold mn; rw [if_pos (by omega)]
    unfold tail4
    rw [if_neg (by omega), if_pos (by omega), if_neg (by omega), if_pos (by omega)]
open Classical in
theorem fits_l0 (W E T K : Int) (l c : List Int) (dk : Deck W E T K l) (hl : c.length = l.length) (d : Nat) : ∀ i : Nat, i + d = c.length → (∀ j, j < i → ∀ h : j < c.length, 0 ≤ c[j]) →
    Ev (fun k => papermillref38_fits.l0 k c (i : Int) W E T K l) (if ∃ x ∈ c, x < 0 then 1 else tail4 (W - 2 * E) T K (tot c) (wid c l)) := by
  have h8 := dk.le
  induction d with
  | zero =>
    intro i hi hn
    have hn2 : ∀ x ∈ c, 0 ≤ x := fun x hx => by
      obtain ⟨j, hj, rfl⟩ := List.getElem_of_mem hx
      exact hn j (by omega) hj
    rw [if_neg (fun ⟨x, hx, h⟩ => by have := hn2 x hx; omega)]
    have := fits_l1 W E T K l c dk hl hn2 c.length 0 0 0 (by omega) (by omega) (by omega) (by omega) (by omega)
    simp only [List.drop_zero, Int.zero_add] at this
    rw [tail_cap _ _ _ _ _ hn2 dk.good.k1] at this
    refine Ev.step (fun k => ?_) this
    rw [papermillref38_fits.l0, if_neg (by omega)]
    rfl
  | succ d ih =>
    intro i hi hn
    by_cases h1 : rd c (i : Int) < 0
    · rw [if_pos ⟨_, rd_mem c i (by omega), h1⟩]
      refine Ev.step (fun k => ?_) (Ev.now _)
      rw [papermillref38_fits.l0, if_pos (by omega), if_pos (by omega), if_pos h1]
    · refine Ev.step (fun k => ?_) (ih (i + 1) (by omega) (fun j hj hjl => by
        rcases Nat.lt_or_ge j i with h | h
        · exact hn j h hjl
        · obtain rfl : j = i := by omega
          rw [← rd_at c j hjl]
          omega))
      rw [papermillref38_fits.l0, if_pos (by omega), if_pos (by omega), if_neg h1, w64 (x := (i : Int) + 1) (by omega) (by omega)]
      rfl
theorem fits (W E T K : Int) (l c : List Int) (dk : Deck W E T K l) : Ev (fun k => papermillref38_fits.f k W E T K l c) (fitErr W E T K l c) := by
  unfold fitErr
  by_cases hl : c.length = l.length
  · rw [if_pos hl]
    exact Ev.congr (fun k => by rw [papermillref38_fits.f, if_pos (by omega)]; rfl) (fits_l0 W E T K l c dk hl c.length 0 (by omega) (fun j hj => absurd hj (Nat.not_lt_zero j)))
  · rw [if_neg hl]
    exact Ev.congr (fun k => by rw [papermillref38_fits.f, if_neg (by omega)]) (Ev.now _)

end Pat
end Go.Proofs.Ytebhilnnbjkbeaa.P38
