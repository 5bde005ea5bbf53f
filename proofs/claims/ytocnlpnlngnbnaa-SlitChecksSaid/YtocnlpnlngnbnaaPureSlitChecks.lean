/- SlitChecks: for every width and strips, Check and Trim of the program and of the reference answer alike (no condition). -/
import Derived.Test.YtocnlpnlngnbnaaSlit3
import Derived.Test.YtocnlpnlngnbnaaStSlitChecks
namespace Go.Proofs.Ytocnlpnlngnbnaa.Pure
open Go.RowKit Go.Proofs.YtocnlpnlngnbnaaW.PrintWords Go.Proofs.YtocnlpnlngnbnaaW.PrintLast Go.Proofs.YtocnlpnlngnbnaaW.PrintMore Go.Proofs.Ytocnlpnlngnbnaa.RowLib Go.Proofs.Ytocnlpnlngnbnaa.P39 Go.Proofs.Ytocnlpnlngnbnaa.P39.Slit
open Go.Proofs.Ytocnlpnlngnbnaa.P39.Pat (into w64)
theorem SlitChecks : papermilllaw39_SlitChecks.Pure := by
  intro w l _ _
  apply Ev.rounds
  by_cases h : (l.length : Int) > 20
  · refine Ev.congr (g := fun k => papermilllaw39_SlitChecks.f k w l) (fun k => by rw [papermilllaw39_SlitChecks.f, if_pos h]) ?_
    exact into awake (fun k hk => by rw [hk, Option.bind_some]) (Ev.now true)
  · refine Ev.congr (g := fun k => papermilllaw39_SlitChecks.f k w l) (fun k => by rw [papermilllaw39_SlitChecks.f, if_neg h]) ?_
    have hl := trim_len w l
    refine into (trimP w l) (fun k hk => by rw [hk, Option.bind_some]) ?_
    refine into (trimR w l) (fun k hk => by rw [hk, Option.bind_some, checkP, Option.bind_some]) ?_
    refine into (checkR w l) (fun k hk => by rw [hk, Option.bind_some, if_pos rfl]) ?_
    refine into (same (trimV w l).1 (by omega)) (fun k hk => by rw [hk, Option.bind_some, if_pos rfl, if_pos rfl]) ?_
    exact into awake (fun k hk => by rw [hk, Option.bind_some]) (Ev.now true)
end Go.Proofs.Ytocnlpnlngnbnaa.Pure
