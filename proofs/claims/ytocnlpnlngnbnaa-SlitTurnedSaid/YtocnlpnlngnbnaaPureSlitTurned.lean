/- SlitTurned: for every child and point, a child that is turned twice is the child, and its points are the mirrored ones (no condition). -/
import Derived.Test.YtocnlpnlngnbnaaSlit5
import Derived.Test.YtocnlpnlngnbnaaStSlitTurned
namespace Go.Proofs.Ytocnlpnlngnbnaa.Pure
open Go.RowKit Go.Proofs.YtocnlpnlngnbnaaW.PrintWords Go.Proofs.YtocnlpnlngnbnaaW.PrintLast Go.Proofs.YtocnlpnlngnbnaaW.PrintMore Go.Proofs.Ytocnlpnlngnbnaa.RowLib Go.Proofs.Ytocnlpnlngnbnaa.P39 Go.Proofs.Ytocnlpnlngnbnaa.P39.Slit
open Go.Proofs.Ytocnlpnlngnbnaa.P39.Pat (into w64)
theorem SlitTurned : papermilllaw39_SlitTurned.Pure := by
  intro a0 a1 a2 m x y _ _ _ _ _
  apply Ev.rounds
  by_cases h1 : (m.length : Int) > 300
  · refine Ev.congr (g := fun k => papermilllaw39_SlitTurned.f k a0 a1 a2 m x y) (fun k => by rw [papermilllaw39_SlitTurned.f, if_pos h1]) ?_
    exact into awake (fun k hk => by rw [hk, Option.bind_some]) (Ev.now true)
  refine Ev.congr (g := fun k => papermilllaw39_SlitTurned.f k a0 a1 a2 m x y) (fun k => by rw [papermilllaw39_SlitTurned.f, if_neg h1]) ?_
  refine into (turnP a0 a1 a2 m) (fun k hk => by rw [hk, Option.bind_some]) ?_
  by_cases h : Lies a0 a1 ∧ chkV m = 0
  · have hl := h.1
    unfold Lies at hl
    have e1 : turnV a0 a1 a2 m = (a0, a1, !a2, m, 0) := by unfold turnV; rw [if_pos h.1, if_pos h.2]
    have e2 : turnV a0 a1 (!a2) m = (a0, a1, !!a2, m, 0) := by unfold turnV; rw [if_pos h.1, if_pos h.2]
    rw [e1]
    refine Ev.congr (g := fun k => _) (fun k => by rw [if_pos rfl]) ?_
    refine into (turnP a0 a1 (!a2) m) (fun k hk => by rw [hk, Option.bind_some]) ?_
    rw [e2, Bool.not_not]
    refine Ev.congr (g := fun k => _) (fun k => by rw [if_pos rfl]) ?_
    refine into (child a0 a1 a2 m (by omega)) (fun k hk => by rw [hk, Option.bind_some, if_pos rfl, if_neg (by cases a2 <;> simp)]) ?_
    refine into (same69 m (by omega)) (fun k hk => by rw [hk, Option.bind_some]) ?_
    have hm : mx 1 a1 = a1 := by unfold mx; split <;> omega
    obtain ⟨t, ht, ht0, ht1⟩ := pick_in x a1 (by omega) (by omega)
    refine Ev.step (fun k => by rw [papermilllaw39_SlitTurned.j0, if_neg (by simp), hm, ht, Option.bind_some, w64 (x := a1 - 1) (by omega) (by omega), w64 (x := a1 - 1 - t) (by omega) (by omega)]) ?_
    refine into (placeP a0 a1 a2 m t y) (fun k hk => by rw [hk, Option.bind_some]) ?_
    refine into (placeP a0 a1 (!a2) m (a1 - 1 - t) y) (fun k hk => by rw [hk, Option.bind_some]) ?_
    have e3 : placeV a0 a1 a2 m t y = placeV a0 a1 (!a2) m (a1 - 1 - t) y := by
      unfold placeV
      rw [if_pos h, if_pos h, if_neg (show ¬ (t < 0 ∨ a1 ≤ t) by omega), if_neg (show ¬ (a1 - 1 - t < 0 ∨ a1 ≤ a1 - 1 - t) by omega)]
      by_cases h2 : (atV m y).2 = 0
      · rw [if_pos h2, if_pos h2]
        cases a2
        · rw [if_neg (by simp), if_pos (by simp), show a1 - 1 - (a1 - 1 - t) = t by omega]
        · rw [if_pos rfl, if_neg (by simp)]
      · rw [if_neg h2, if_neg h2]
    rw [e3]
    refine Ev.congr (g := fun k => _) (fun k => by rw [if_pos rfl, if_pos rfl, if_pos rfl]) ?_
    exact into awake (fun k hk => by rw [hk, Option.bind_some]) (Ev.now true)
  · have h2 := fun h3 => h ((turn_err a0 a1 a2 m).1 h3)
    have h3 : (turnV a0 a1 a2 m).2.2.2.1 = [] := by
      unfold turnV
      by_cases hl : Lies a0 a1
      · rw [if_pos hl, if_neg (fun hc => h ⟨hl, hc⟩)]
      · rw [if_neg hl]
    refine Ev.congr (g := fun k => _) (fun k => by rw [if_neg h2, h3, if_pos (by simp)]) ?_
    exact into awake (fun k hk => by rw [hk, Option.bind_some]) (Ev.now true)
end Go.Proofs.Ytocnlpnlngnbnaa.Pure
