/- PatternMore: a pattern that fits is maximal exactly if it fits with no piece more; with a piece more, what is left is less by that size (no condition). -/
import Derived.Test.YtebhilnnbjkbeaaPat6
import Derived.Test.YtebhilnnbjkbeaaStPatternMore
namespace Go.Proofs.Ytebhilnnbjkbeaa.Pure
open Go.RowKit Go.Proofs.YtebhilnnbjkbeaaW.PrintWords Go.Proofs.YtebhilnnbjkbeaaW.PrintLast Go.Proofs.YtebhilnnbjkbeaaW.PrintMore Go.Proofs.Ytebhilnnbjkbeaa.RowLib Go.Proofs.Ytebhilnnbjkbeaa.P38 Go.Proofs.Ytebhilnnbjkbeaa.P38.Pat
theorem awake_then {f : Nat → Option Bool} (h : ∀ k, papermilllaw38_awake.f k = some true → f (k + 1) = some true) : Ev f true := by
  obtain ⟨K, hK⟩ := awake
  refine ⟨K + 1, fun n hn => ?_⟩
  obtain ⟨m, rfl⟩ : ∃ m, n = m + 1 := ⟨n - 1, by omega⟩
  exact h m (hK m (by omega))
open Classical in
theorem more_l0 (W E T K : Int) (l c : List Int) (h : FitsE W E T K l c = 0) (m : Bool) (hm : m = decide (¬ ∃ (i : Nat) (h : i < c.length), Fit W E T K l (c.set i (c[i] + 1)))) (d : Nat) : ∀ (i : Nat) (b : Bool), i + d = c.length → (b = true ↔ ∃ j, j < i ∧ ∃ h : j < c.length, Fit W E T K l (c.set j (c[j] + 1))) →
    Ev (fun k => papermilllaw38_PatternMore.l0 k c (W - 2 * E - wid c l) m b (i : Int) W E T K l) true := by
  obtain ⟨dk, _, hf⟩ := fits_ok h
  have hc := check_of_fits h
  have ft := (fit_iff W E T K l c).1 hf
  have h8 := dk.le
  have hl := ft.len
  have g := dk.good
  have gw := g.w1
  have gk := g.k1
  have ge := g.e0
  have gw0 := g.w0
  have ge1 := g.e1
  have hq1 := ft.fit
  induction d with
  | zero =>
    intro i b hi hb
    have e : (m == !b) = true := by
      have : m = !b := by
        rw [hm]
        cases b with
        | true =>
          obtain ⟨j, _, hj⟩ := hb.1 rfl
          exact decide_eq_false (fun hn => hn ⟨j, hj⟩)
        | false => exact decide_eq_true (fun ⟨j, hj, hfj⟩ => Bool.noConfusion (hb.2 ⟨j, by omega, hj, hfj⟩))
      rw [this]; exact beq_self_eq_true _
    exact awake_then fun k hk => by rw [papermilllaw38_PatternMore.l0, if_neg (by omega), if_pos e, hk]; rfl
  | succ d ih =>
    intro i b hi hb
    have hil : i < c.length := by omega
    have hil2 : i < l.length := by omega
    have hci := ft.nn _ (List.getElem_mem hil)
    have hc2 := tot_mem c ft.nn _ (List.getElem_mem hil)
    have hK := ft.le
    have hs := dk.rng _ (List.getElem_mem hil2)
    have hw0 := wid_nonneg c l ft.nn (fun x hx => by have := (dk.rng x hx).1; omega)
    have ew : wrap64 (rd c (i : Int) + 1) = c[i] + 1 := by rw [rd_at c i hil]; exact w64 (by omega) (by omega)
    have el : wrap64 ((W - 2 * E - wid c l) - rd l (i : Int)) = W - 2 * E - wid c l - l[i] := by rw [rd_at l i hil2]; exact w64 (by omega) (by omega)
    have hI : (i : Int) < (l.length : Int) := by omega
    refine Ev.step (f := fun k => (pattern_Fits.f k W E T K l (c.set i (c[i] + 1))).bind fun t => if t = 0 then ((pattern_Left.f k W E T K l (c.set i (c[i] + 1))).bind fun bt => if bt.2 = 0 then (if bt.1 = W - 2 * E - wid c l - l[i] then papermilllaw38_PatternMore.l0 k c (W - 2 * E - wid c l) m true ((i + 1 : Nat) : Int) W E T K l else none) else none) else papermilllaw38_PatternMore.l0 k c (W - 2 * E - wid c l) m b ((i + 1 : Nat) : Int) W E T K l) (fun k => ?_) ?_
    · rw [papermilllaw38_PatternMore.l0, if_pos (by omega)]
      simp only [Option.bind_some, List.nil_append, List.length_nil, Nat.zero_add]
      rw [if_pos (by omega), if_pos (by omega), if_pos (by omega), ew, Int.toNat_natCast, el, w64 (x := (i : Int) + 1) (by omega) (by omega)]
      simp only [hI, if_true]
      rfl
    · by_cases hf2 : fitErr W E T K l (c.set i (c[i] + 1)) = 0
      · have hF : FitsE W E T K l (c.set i (c[i] + 1)) = 0 := by rw [FitsE_of hc]; exact hf2
        have hfit := (fit_iff W E T K l _).1 hf2
        have hL := LeftP W E T K l (c.set i (c[i] + 1))
        unfold LeftV at hL
        rw [if_pos hF, wid_set c l i hil hl] at hL
        refine into (FitsP W E T K l _) (fun k hk => by rw [hk, Option.bind_some, if_pos hF]) ?_
        refine into hL (fun k hk => by rw [hk, Option.bind_some, if_pos rfl, if_pos (show W - 2 * E - (wid c l + l[i]) = W - 2 * E - wid c l - l[i] by omega)]) (ih (i + 1) true (by omega) ⟨fun _ => ⟨i, by omega, hil, hfit⟩, fun _ => rfl⟩)
      · have hF : ¬ FitsE W E T K l (c.set i (c[i] + 1)) = 0 := by rw [FitsE_of hc]; exact hf2
        refine into (FitsP W E T K l _) (fun k hk => by rw [hk, Option.bind_some, if_neg hF]) (ih (i + 1) b (by omega) ⟨fun hbt => ?_, fun ⟨j, hj, hjl, hjf⟩ => ?_⟩)
        · obtain ⟨j, hj, hx⟩ := hb.1 hbt
          exact ⟨j, by omega, hx⟩
        · rcases Nat.lt_or_ge j i with h1 | h1
          · exact hb.2 ⟨j, h1, hjl, hjf⟩
          · obtain rfl : j = i := by omega
            exact absurd ((fit_iff W E T K l _).2 hjf) hf2
open Classical in
theorem PatternMore : papermilllaw38_PatternMore.Pure := by
  intro W E T K l c _ _ _ _ _ _
  have htrue : Ev (fun k => papermilllaw38_PatternMore.j0 k c true W E T K l) true := awake_then fun k hk => by rw [papermilllaw38_PatternMore.j0, if_pos rfl, hk]; rfl
  apply Ev.rounds
  by_cases hl : l.length ≤ 20
  · by_cases hc : (c.length : Int) > 20
    · exact Ev.congr (fun k => by rw [papermilllaw38_PatternMore.f, light_yes W E T K l hl, Option.bind_some, if_pos rfl, if_pos hc]) htrue
    · refine Ev.congr (g := fun k => papermilllaw38_PatternMore.f k W E T K l c) (f := fun k => (pattern_Fits.f k W E T K l c).bind fun t => papermilllaw38_PatternMore.j0 k c (t != 0) W E T K l) (fun k => by rw [papermilllaw38_PatternMore.f, light_yes W E T K l hl, Option.bind_some, if_pos rfl, if_neg hc]) ?_
      refine into (FitsP W E T K l c) (fun k hk => by rw [hk, Option.bind_some]) ?_
      by_cases h : FitsE W E T K l c = 0
      · obtain ⟨dk, _, hf⟩ := fits_ok h
        have ft := (fit_iff W E T K l c).1 hf
        have h1 := ft.fit
        have h2 := ft.trim
        have hL := LeftP W E T K l c
        unfold LeftV at hL
        rw [if_pos h] at hL
        have hM := MaxP W E T K l c
        unfold MaxV at hM
        rw [if_pos h] at hM
        rw [h]
        refine Ev.step (fun k => by rw [papermilllaw38_PatternMore.j0, if_neg (by simp)]) ?_
        refine into hL (fun k hk => by rw [hk, Option.bind_some]) ?_
        have hne : ((c.length : Int) != (l.length : Int)) = false := by rw [ft.len]; exact bne_self_eq_false _
        refine into hM (fun k hk => by rw [hk, Option.bind_some, if_pos rfl, if_pos rfl, if_neg (show ¬ (W - 2 * E - wid c l) < 0 by omega), if_neg (show ¬ (W - 2 * E - wid c l) > T by omega), hne]) ?_
        refine Ev.step (fun k => by rw [papermilllaw38_PatternMore.j1, if_neg (by simp)]) ?_
        exact more_l0 W E T K l c h _ rfl c.length 0 false (by omega) ⟨fun h => (Bool.noConfusion h), fun ⟨j, hj, _⟩ => absurd hj (Nat.not_lt_zero j)⟩
      · rw [show (FitsE W E T K l c != 0) = true by simp [h]]
        exact htrue
  · exact Ev.congr (fun k => by rw [papermilllaw38_PatternMore.f, light_no W E T K l hl, Option.bind_some, if_neg (by simp)]) htrue
end Go.Proofs.Ytebhilnnbjkbeaa.Pure
