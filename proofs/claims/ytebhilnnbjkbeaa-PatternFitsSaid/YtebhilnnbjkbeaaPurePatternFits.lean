/- PatternFits: for every deckle and pattern, Fits of the program answers as the reference's Fits, and Left as its Left (no condition). -/
import Derived.Test.YtebhilnnbjkbeaaPat4
import Derived.Test.YtebhilnnbjkbeaaStPatternFits
namespace Go.Proofs.Ytebhilnnbjkbeaa.Pure
open Go.RowKit Go.Proofs.YtebhilnnbjkbeaaW.PrintWords Go.Proofs.YtebhilnnbjkbeaaW.PrintLast Go.Proofs.YtebhilnnbjkbeaaW.PrintMore Go.Proofs.Ytebhilnnbjkbeaa.RowLib Go.Proofs.Ytebhilnnbjkbeaa.P38 Go.Proofs.Ytebhilnnbjkbeaa.P38.Pat
theorem awake_then {f : Nat → Option Bool} (h : ∀ k, papermilllaw38_awake.f k = some true → f (k + 1) = some true) : Ev f true := by
  obtain ⟨K, hK⟩ := awake
  refine ⟨K + 1, fun n hn => ?_⟩
  obtain ⟨m, rfl⟩ : ∃ m, n = m + 1 := ⟨n - 1, by omega⟩
  exact h m (hK m (by omega))
theorem PatternFits : papermilllaw38_PatternFits.Pure := by
  intro W E T K l c _ _ _ _ _ _
  have htrue : Ev (fun k => papermilllaw38_PatternFits.j0 k c true W E T K l) true := awake_then fun k hk => by rw [papermilllaw38_PatternFits.j0, if_pos rfl, hk]; rfl
  apply Ev.rounds
  by_cases hl : l.length ≤ 20
  · refine Ev.congr (fun k => by rw [papermilllaw38_PatternFits.f, light_yes W E T K l hl, Option.bind_some, if_pos rfl]) ?_
    by_cases hc : (c.length : Int) > 20
    · rw [decide_eq_true hc]
      exact htrue
    · rw [decide_eq_false hc]
      refine Ev.step (fun k => by rw [papermilllaw38_PatternFits.j0, if_neg (by simp)]) ?_
      refine into (LeftP W E T K l c) (fun k hk => by rw [hk, Option.bind_some]) ?_
      refine into (LeftR W E T K l c) (fun k hk => by rw [hk, Option.bind_some]) ?_
      refine into (FitsP W E T K l c) (fun k hk => by rw [hk, Option.bind_some]) ?_
      refine into (FitsR W E T K l c) (fun k hk => by rw [hk, Option.bind_some, if_pos rfl, if_pos rfl, if_pos rfl]) ?_
      exact into awake (fun k hk => by rw [hk, Option.bind_some]) (Ev.now true)
  · exact Ev.congr (fun k => by rw [papermilllaw38_PatternFits.f, light_no W E T K l hl, Option.bind_some, if_neg (by simp)]) htrue
end Go.Proofs.Ytebhilnnbjkbeaa.Pure
