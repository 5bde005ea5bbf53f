/- SlitStrips: for every deckle and pattern, Strips of the program and of the reference answer alike (no condition). -/
import Derived.Test.YtocnlpnlngnbnaaSlit6
import Derived.Test.YtocnlpnlngnbnaaStSlitStrips
namespace Go.Proofs.Ytocnlpnlngnbnaa.Pure
open Go.RowKit Go.Proofs.YtocnlpnlngnbnaaW.PrintWords Go.Proofs.YtocnlpnlngnbnaaW.PrintLast Go.Proofs.YtocnlpnlngnbnaaW.PrintMore Go.Proofs.Ytocnlpnlngnbnaa.RowLib Go.Proofs.Ytocnlpnlngnbnaa.P39 Go.Proofs.Ytocnlpnlngnbnaa.P39.Slit
open Go.Proofs.Ytocnlpnlngnbnaa.P39.Pat (into w64 FitsE fits_ok fit_iff)
theorem strips_len (W E T K : Int) (l c : List Int) : (stripsV W E T K l c).1.length ≤ 12 := by
  unfold stripsV
  by_cases h : FitsE W E T K l c = 0
  · rw [if_pos h]
    obtain ⟨dk, _, hf⟩ := fits_ok h
    have ft := (fit_iff W E T K l c).1 hf
    have := rows_len c l E ft.len ft.nn
    have := ft.le
    have := dk.good.k1
    simp only
    omega
  · rw [if_neg h]
    simp
theorem SlitStrips : papermilllaw39_SlitStrips.Pure := by
  intro W E T K l c _ _ _ _ _ _
  apply Ev.rounds
  have hj : Ev (fun k => papermilllaw39_SlitStrips.j0 k c true W E T K l) true := Ev.step (fun k => by rw [papermilllaw39_SlitStrips.j0, if_pos rfl]) (into awake (fun k hk => by rw [hk, Option.bind_some]) (Ev.now true))
  by_cases h1 : (l.length : Int) > 12
  · exact Ev.congr (fun k => by rw [papermilllaw39_SlitStrips.f, if_pos h1]) hj
  by_cases h2 : (c.length : Int) > 12
  · exact Ev.congr (fun k => by rw [papermilllaw39_SlitStrips.f, if_neg h1, decide_eq_true h2]) hj
  refine Ev.congr (g := fun k => papermilllaw39_SlitStrips.f k W E T K l c) (fun k => by rw [papermilllaw39_SlitStrips.f, if_neg h1, decide_eq_false h2]) ?_
  refine Ev.step (fun k => by rw [papermilllaw39_SlitStrips.j0, if_neg (by simp)]) ?_
  have hl := strips_len W E T K l c
  refine into (stripsP W E T K l c) (fun k hk => by rw [hk, Option.bind_some]) ?_
  refine into (stripsR W E T K l c) (fun k hk => by rw [hk, Option.bind_some]) ?_
  refine into (same (stripsV W E T K l c).1 (by omega)) (fun k hk => by rw [hk, Option.bind_some, if_pos rfl, if_pos rfl]) ?_
  exact into awake (fun k hk => by rw [hk, Option.bind_some]) (Ev.now true)
end Go.Proofs.Ytocnlpnlngnbnaa.Pure
