/- Patterns: one piece more; whether a pattern is maximal. -/
import Derived.Test.YtebhilnnbjkbeaaPat5
import Derived.Test.YtebhilnnbjkbeaaP38x17
namespace Go.Proofs.Ytebhilnnbjkbeaa.P38
open Go.RowKit Go.Proofs.YtebhilnnbjkbeaaW.PrintWords Go.Proofs.YtebhilnnbjkbeaaW.PrintLast Go.Proofs.YtebhilnnbjkbeaaW.PrintMore
set_option linter.unusedVariables false
set_option linter.unusedSimpArgs false
namespace Pat

theorem tot_set (c : List Int) : ∀ (i : Nat) (h : i < c.length), tot (c.set i (c[i] + 1)) = tot c + 1 := by
  induction c with
  | nil => intro i h; simp at h
  | cons x c ih =>
    intro i h
    cases i with
    | zero => simp [tot]; omega
    | succ i =>
      have := ih i (by simpa using h)
      simp only [List.set_cons_succ, List.getElem_cons_succ, tot, this]
      omega
theorem wid_set (c : List Int) : ∀ (l : List Int) (i : Nat) (h : i < c.length) (hl : c.length = l.length), wid (c.set i (c[i] + 1)) l = wid c l + l[i] := by
  induction c with
  | nil => intro l i h; simp at h
  | cons x c ih =>
    intro l i h hl
    cases l with
    | nil => simp at hl
    | cons s l =>
      cases i with
      | zero =>
        simp only [List.set_cons_zero, List.getElem_cons_zero, wid, Int.add_mul]
        omega
      | succ i =>
        have := ih l i (by simpa using h) (by simpa using hl)
        simp only [List.set_cons_succ, List.getElem_cons_succ, wid, this]
        omega
/-- With one piece more of size i. -/
theorem fit_more {W E T K : Int} {l c : List Int} (dk : Deck W E T K l) (ft : Fit W E T K l c) (i : Nat) (h : i < c.length) : Fit W E T K l (c.set i (c[i] + 1)) ↔ tot c + 1 ≤ K ∧ l[i]'(by rw [← ft.len]; exact h) ≤ W - 2 * E - wid c l := by
  have h1 := tot_set c i h
  have h2 := wid_set c l i h ft.len
  have hs := dk.rng (l[i]'(by rw [← ft.len]; exact h)) (List.getElem_mem _)
  have h3 := ft.trim
  have h4 := ft.pos
  constructor
  · intro f
    have := f.le; have := f.fit
    omega
  · intro ⟨a, b⟩
    refine ⟨by rw [List.length_set]; exact ft.len, fun x hx => ?_, by omega, by omega, by omega, by omega⟩
    rcases List.mem_or_eq_of_mem_set hx with hx | hx
    · exact ft.nn x hx
    · have := ft.nn _ (List.getElem_mem h)
      omega
theorem desc_last {l : List Int} (h : Desc l) (h0 : 0 < l.length) (d : Nat) : ∀ i : Nat, i + d = l.length - 1 → ∀ hi : i < l.length, l[l.length - 1]'(by omega) ≤ l[i] := by
  induction d with
  | zero =>
    intro i hi hil
    have : i = l.length - 1 := by omega
    subst this
    exact Int.le_refl _
  | succ d ih =>
    intro i hi hil
    have h1 := ih (i + 1) (by omega) (by omega)
    have h2 := h i (by omega)
    omega
/-- Can a piece be added? -/
theorem more_iff {W E T K : Int} {l c : List Int} (dk : Deck W E T K l) (ft : Fit W E T K l c) : (∃ (i : Nat) (h : i < c.length), Fit W E T K l (c.set i (c[i] + 1))) ↔ ¬ (tot c = K ∨ W - 2 * E - wid c l < l[l.length - 1]'(by have := dk.ne; omega)) := by
  have h0 := dk.ne
  have hl := ft.len
  have hK := ft.le
  constructor
  · rintro ⟨i, h, hf⟩
    have h1 := (fit_more dk ft i h).1 hf
    have h2 := desc_last dk.desc h0 (l.length - 1 - i) i (by omega) (by omega)
    omega
  · intro h
    have hi : l.length - 1 < c.length := by omega
    exact ⟨l.length - 1, hi, (fit_more dk ft _ hi).2 ⟨by omega, by omega⟩⟩
open Classical in
noncomputable def MaxV (W E T K : Int) (l c : List Int) : Bool × Int := if FitsE W E T K l c = 0 then (decide (¬ ∃ (i : Nat) (h : i < c.length), Fit W E T K l (c.set i (c[i] + 1))), 0) else (false, FitsE W E T K l c)
open Classical in
theorem MaxP (W E T K : Int) (l c : List Int) : Ev (fun k => pattern_Maximal.f k W E T K l c) (MaxV W E T K l c) := by
  unfold MaxV
  by_cases hc : checkErr W E T K l = 0
  · have dk := (deck_of_check hc).1
    have h0 := dk.ne
    have h8 := dk.le
    refine into (check W E T K l) (f := fun k => (pattern_room.f k W E T K l c).bind fun bt147 => (if bt147.2.2 = 0 then (if bt147.1 = K then (some (true, 0)) else (if 0 ≤ (wrap64 ((l.length : Int) - 1)) then (if (wrap64 ((l.length : Int) - 1)) < (l.length : Int) then (some (decide (bt147.2.1 < (rd l (wrap64 ((l.length : Int) - 1)))), 0)) else (none)) else (none))) else (some (false, bt147.2.2)))) (fun k hk => by rw [pattern_Maximal.f, hk, Option.bind_some, if_pos hc]) ?_
    refine into (room W E T K l c dk) (fun k hk => ?_) (Ev.now _)
    rw [hk, Option.bind_some, room_err]
    by_cases hf : fitErr W E T K l c = 0
    · have ft := (fit_iff W E T K l c).1 hf
      have hF : FitsE W E T K l c = 0 := by rw [FitsE_of hc]; exact hf
      rw [if_pos hf, if_pos hF]
      have hr : roomOf W E T K l c = (tot c, W - 2 * E - wid c l, 0) := by unfold roomOf; rw [if_pos hf]
      rw [hr]
      have e1 : wrap64 ((l.length : Int) - 1) = ((l.length - 1 : Nat) : Int) := by unfold wrap64; omega
      have hm := more_iff dk ft
      simp only
      by_cases hk1 : tot c = K
      · rw [if_pos hk1, show decide (¬ ∃ (i : Nat) (h : i < c.length), Fit W E T K l (c.set i (c[i] + 1))) = true from decide_eq_true (fun h => (hm.1 h) (.inl hk1))]
      · rw [if_neg hk1, e1, if_pos (by omega), if_pos (by omega), rd_at l _ (by omega)]
        by_cases hlt : W - 2 * E - wid c l < l[l.length - 1]'(by omega)
        · rw [decide_eq_true hlt, show decide (¬ ∃ (i : Nat) (h : i < c.length), Fit W E T K l (c.set i (c[i] + 1))) = true from decide_eq_true (fun h => (hm.1 h) (.inr hlt))]
        · rw [decide_eq_false hlt, show decide (¬ ∃ (i : Nat) (h : i < c.length), Fit W E T K l (c.set i (c[i] + 1))) = false from decide_eq_false (fun h => h (hm.2 (fun h2 => by
            rcases h2 with h2 | h2
            · exact hk1 h2
            · exact hlt h2)))]
    · have hF : ¬ FitsE W E T K l c = 0 := by rw [FitsE_of hc]; exact hf
      rw [if_neg hf, if_neg hF, FitsE_of hc]
  · have e : FitsE W E T K l c = checkErr W E T K l := if_neg hc
    rw [e, if_neg hc]
    exact into (check W E T K l) (fun k hk => by rw [pattern_Maximal.f, hk, Option.bind_some, if_neg hc]) (Ev.now _)
end Pat
end Go.Proofs.Ytebhilnnbjkbeaa.P38
