/- PatternLists: for every deckle, All of the program and of the reference answer with equal lists of patterns, and the same error (no condition). -/
import Derived.Test.YtebhilnnbjkbeaaPat4
import Derived.Test.YtebhilnnbjkbeaaStPatternLists
namespace Go.Proofs.Ytebhilnnbjkbeaa.Pure
open Go.RowKit Go.Proofs.YtebhilnnbjkbeaaW.PrintWords Go.Proofs.YtebhilnnbjkbeaaW.PrintLast Go.Proofs.YtebhilnnbjkbeaaW.PrintMore Go.Proofs.Ytebhilnnbjkbeaa.RowLib Go.Proofs.Ytebhilnnbjkbeaa.P38 Go.Proofs.Ytebhilnnbjkbeaa.P38.Pat
theorem PatternLists : papermilllaw38_PatternLists.Pure := by
  intro W E T K l _ _ _ _ hll
  apply Ev.rounds
  by_cases hl : l.length ≤ 20
  · refine Ev.congr (fun k => by rw [papermilllaw38_PatternLists.f, light_yes W E T K l hl, Option.bind_some, if_pos rfl]) ?_
    refine into (AllP W E T K l) (fun k hk => by rw [hk, Option.bind_some]) ?_
    refine into (AllR W E T K l) (fun k hk => by rw [hk, Option.bind_some]) ?_
    have hs : Ev (fun k => papermillref38_Same.f k (AllV W E T K l).1 (AllV W E T K l).1) true := by
      unfold AllV
      by_cases h : checkErr W E T K l = 0
      · rw [if_pos h]
        exact same_same _ (by have := (deck_of_check h).2; show (pats W E T K l).length ≤ _; omega) (fun x hx => by rw [pats_len W E T K l x hx]; omega)
      · rw [if_neg h]
        exact same_same _ (by simp) (fun x hx => by cases hx)
    refine into hs (fun k hk => by rw [hk, Option.bind_some, if_pos rfl, if_pos rfl]) ?_
    exact into awake (fun k hk => by rw [hk, Option.bind_some]) (Ev.now true)
  · refine Ev.congr (fun k => by rw [papermilllaw38_PatternLists.f, light_no W E T K l hl, Option.bind_some, if_neg (by simp)]) ?_
    exact into awake (fun k hk => by rw [hk, Option.bind_some]) (Ev.now true)
end Go.Proofs.Ytebhilnnbjkbeaa.Pure
