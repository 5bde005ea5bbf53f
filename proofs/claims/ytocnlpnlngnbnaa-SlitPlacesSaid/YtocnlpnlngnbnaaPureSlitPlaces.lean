/- SlitPlaces: for every child and point, Turned and Place of the program and of the reference answer alike (no condition). -/
import Derived.Test.YtocnlpnlngnbnaaSlit3
import Derived.Test.YtocnlpnlngnbnaaStSlitPlaces
namespace Go.Proofs.Ytocnlpnlngnbnaa.Pure
open Go.RowKit Go.Proofs.YtocnlpnlngnbnaaW.PrintWords Go.Proofs.YtocnlpnlngnbnaaW.PrintLast Go.Proofs.YtocnlpnlngnbnaaW.PrintMore Go.Proofs.Ytocnlpnlngnbnaa.RowLib Go.Proofs.Ytocnlpnlngnbnaa.P39 Go.Proofs.Ytocnlpnlngnbnaa.P39.Slit
open Go.Proofs.Ytocnlpnlngnbnaa.P39.Pat (into w64)
theorem SlitPlaces : papermilllaw39_SlitPlaces.Pure := by
  intro a0 a1 a2 m x y _ _ _ _ hy
  apply Ev.rounds
  by_cases h : (m.length : Int) > 300
  · refine Ev.congr (g := fun k => papermilllaw39_SlitPlaces.f k a0 a1 a2 m x y) (fun k => by rw [papermilllaw39_SlitPlaces.f, if_pos h]) ?_
    exact into awake (fun k hk => by rw [hk, Option.bind_some]) (Ev.now true)
  · refine Ev.congr (g := fun k => papermilllaw39_SlitPlaces.f k a0 a1 a2 m x y) (fun k => by rw [papermilllaw39_SlitPlaces.f, if_neg h]) ?_
    have hl : (turnV a0 a1 a2 m).2.2.2.1.length ≤ 9000000000000000000 := by
      unfold turnV
      split
      · split
        · simp only
          omega
        · simp
      · simp
    refine into (turnP a0 a1 a2 m) (fun k hk => by rw [hk, Option.bind_some]) ?_
    refine into (turnR a0 a1 a2 m) (fun k hk => by rw [hk, Option.bind_some]) ?_
    refine into (placeP a0 a1 a2 m x y) (fun k hk => by rw [hk, Option.bind_some]) ?_
    refine into (placeR a0 a1 a2 m x y hy.2) (fun k hk => by rw [hk, Option.bind_some]) ?_
    refine into (child _ _ _ _ hl) (fun k hk => by rw [hk, Option.bind_some, if_pos rfl, if_pos rfl, if_pos rfl, if_pos rfl, if_pos rfl]) ?_
    exact into awake (fun k hk => by rw [hk, Option.bind_some]) (Ev.now true)
end Go.Proofs.Ytocnlpnlngnbnaa.Pure
