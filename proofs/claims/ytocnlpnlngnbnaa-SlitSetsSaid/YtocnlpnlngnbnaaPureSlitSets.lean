/- SlitSets: for every job, Set of the program and of the reference answer alike (no condition). -/
import Derived.Test.YtocnlpnlngnbnaaSlit3
import Derived.Test.YtocnlpnlngnbnaaStSlitSets
namespace Go.Proofs.Ytocnlpnlngnbnaa.Pure
open Go.RowKit Go.Proofs.YtocnlpnlngnbnaaW.PrintWords Go.Proofs.YtocnlpnlngnbnaaW.PrintLast Go.Proofs.YtocnlpnlngnbnaaW.PrintMore Go.Proofs.Ytocnlpnlngnbnaa.RowLib Go.Proofs.Ytocnlpnlngnbnaa.P39 Go.Proofs.Ytocnlpnlngnbnaa.P39.Slit
open Go.Proofs.Ytocnlpnlngnbnaa.P39.Pat (into w64)
theorem SlitSets : papermilllaw39_SlitSets.Pure := by
  intro w L l used len _ _ _ _ _
  apply Ev.rounds
  by_cases h : (l.length : Int) > 20
  · refine Ev.congr (g := fun k => papermilllaw39_SlitSets.f k w L l used len) (fun k => by rw [papermilllaw39_SlitSets.f, if_pos h]) ?_
    exact into awake (fun k hk => by rw [hk, Option.bind_some]) (Ev.now true)
  · refine Ev.congr (g := fun k => papermilllaw39_SlitSets.f k w L l used len) (fun k => by rw [papermilllaw39_SlitSets.f, if_neg h]) ?_
    have hs := set_small w L l used len
    refine into (set_ w L l used len) (fun k hk => by rw [hk, Option.bind_some]) ?_
    refine into (setR w L l used len) (fun k hk => by rw [hk, Option.bind_some]) ?_
    refine into (children (setV w L l used len).1 (by omega) (fun x hx => by have := hs.2 x hx; omega)) (fun k hk => by rw [hk, Option.bind_some, if_pos rfl, if_pos rfl]) ?_
    exact into awake (fun k hk => by rw [hk, Option.bind_some]) (Ev.now true)
end Go.Proofs.Ytocnlpnlngnbnaa.Pure
