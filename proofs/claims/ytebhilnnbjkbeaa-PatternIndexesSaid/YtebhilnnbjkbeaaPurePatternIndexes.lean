/- PatternIndexes: for every deckle and pattern, Index of the program and of the reference answer alike (no condition). -/
import Derived.Test.YtebhilnnbjkbeaaPat5
import Derived.Test.YtebhilnnbjkbeaaStPatternIndexes
import Derived.Test.YtebhilnnbjkbeaaP38x30
namespace Go.Proofs.Ytebhilnnbjkbeaa.Pure
open Go.RowKit Go.Proofs.YtebhilnnbjkbeaaW.PrintWords Go.Proofs.YtebhilnnbjkbeaaW.PrintLast Go.Proofs.YtebhilnnbjkbeaaW.PrintMore Go.Proofs.Ytebhilnnbjkbeaa.RowLib Go.Proofs.Ytebhilnnbjkbeaa.P38 Go.Proofs.Ytebhilnnbjkbeaa.P38.Pat
theorem ints_l0 (a b : List Int) (hl : a.length = b.length) (ha : a.length ≤ 9000000000000000000) (d : Nat) : ∀ i : Nat, i + d = a.length → Ev (fun k => papermillref38_Ints.l0 k a b (i : Int)) (decide (a.drop i = b.drop i)) := by
  induction d with
  | zero =>
    intro i hi
    rw [List.drop_eq_nil_of_le (by omega), List.drop_eq_nil_of_le (by omega), decide_eq_true rfl]
    exact Ev.step (fun k => by rw [papermillref38_Ints.l0, if_neg (by omega)]) (Ev.now _)
  | succ d ih =>
    intro i hi
    rw [drop_rd a i (by omega), drop_rd b i (by omega)]
    by_cases e : rd a (i : Int) = rd b (i : Int)
    · rw [show decide (rd a (i : Int) :: a.drop (i + 1) = rd b (i : Int) :: b.drop (i + 1)) = decide (a.drop (i + 1) = b.drop (i + 1)) by simp [e]]
      refine Ev.step (fun k => ?_) (ih (i + 1) (by omega))
      rw [papermillref38_Ints.l0, if_pos (by omega), if_pos (by omega), if_pos (by omega), if_pos e, w64 (x := (i : Int) + 1) (by omega) (by omega)]
      rfl
    · rw [show decide (rd a (i : Int) :: a.drop (i + 1) = rd b (i : Int) :: b.drop (i + 1)) = false by simp [e]]
      refine Ev.step (fun k => ?_) (Ev.now _)
      rw [papermillref38_Ints.l0, if_pos (by omega), if_pos (by omega), if_pos (by omega), if_neg e]
theorem ints (a b : List Int) (ha : a.length ≤ 9000000000000000000) : Ev (fun k => papermillref38_Ints.f k a b) (decide (a = b)) := by
  by_cases hl : a.length = b.length
  · have := ints_l0 a b hl ha a.length 0 (by omega)
    simp only [List.drop_zero] at this
    exact Ev.congr (fun k => by rw [papermillref38_Ints.f, if_pos (by omega)]; rfl) this
  · rw [show decide (a = b) = false from decide_eq_false fun e => hl (by rw [e])]
    exact Ev.congr (fun k => by rw [papermillref38_Ints.f, if_neg (by omega)]) (Ev.now _)
theorem index_l0 (p : List (List Int)) (c : List Int) (hp : p.length ≤ 100000) (hx : ∀ x ∈ p, x.length ≤ 100000) (i : Nat) (hi : i < p.length) (he : p[i] = c) (hmin : ∀ j, j < i → p[j]? ≠ some c) (d : Nat) : ∀ j : Nat, j + d = i →
    Ev (fun k => papermillref38_Index.l0 k c p (j : Int)) ((i : Int), 0) := by
  induction d with
  | zero =>
    intro j hj
    obtain rfl : j = i := by omega
    refine Ev.step (f := fun k => (papermillref38_Ints.f k c c).bind fun t => if t = true then some ((j : Int), 0) else papermillref38_Index.l0 k c p (wrap64 ((j : Int) + 1))) (fun k => ?_) (into (ints_same c (by have := hx _ (List.getElem_mem hi); rw [he] at this; omega)) (fun k hk => by rw [hk, Option.bind_some, if_pos rfl]) (Ev.now _))
    rw [papermillref38_Index.l0, if_pos (by omega), if_pos (by omega), rdL_at p j hi, he]
  | succ d ih =>
    intro j hj
    have hjl : j < p.length := by omega
    have hne : p[j] ≠ c := fun e => hmin j (by omega) (by rw [List.getElem?_eq_getElem hjl, e])
    have hi1 := ints p[j] c (by have := hx _ (List.getElem_mem hjl); omega)
    rw [decide_eq_false hne] at hi1
    refine Ev.step (f := fun k => (papermillref38_Ints.f k p[j] c).bind fun t => if t = true then some ((j : Int), 0) else papermillref38_Index.l0 k c p ((j + 1 : Nat) : Int)) (fun k => ?_) (into hi1 (fun k hk => by rw [hk, Option.bind_some, if_neg (by simp)]) (ih (j + 1) (by omega)))
    rw [papermillref38_Index.l0, if_pos (by omega), if_pos (by omega), rdL_at p j hjl, w64 (x := (j : Int) + 1) (by omega) (by omega)]
    rfl
theorem IndexR (W E T K : Int) (l c : List Int) : Ev (fun k => papermillref38_Index.f k W E T K l c) (IndexV W E T K l c) := by
  by_cases h : FitsE W E T K l c = 0
  · obtain ⟨i, hi, he, hmin, hv⟩ := index_at h
    obtain ⟨dk, hle, _⟩ := fits_ok h
    rw [hv]
    refine into (FitsR W E T K l c) (f := fun k => (papermillref38_All.f k W E T K l).bind fun b => papermillref38_Index.l0 k c b.1 0) (fun k hk => by rw [papermillref38_Index.f, hk, Option.bind_some, if_pos h]) ?_
    have ha : AllV W E T K l = (pats W E T K l, 0) := by unfold AllV; rw [if_pos (check_of_fits h)]
    refine into (AllR W E T K l) (fun k hk => by rw [hk, Option.bind_some, ha]) ?_
    have := index_l0 (pats W E T K l) c (by omega) (fun x hx => by rw [pats_len W E T K l x hx]; have := dk.le; omega) i hi he hmin i 0 (by omega)
    exact this
  · unfold IndexV
    rw [if_neg h]
    exact into (FitsR W E T K l c) (fun k hk => by rw [papermillref38_Index.f, hk, Option.bind_some, if_neg h]) (Ev.now _)
theorem awake_then {f : Nat → Option Bool} (h : ∀ k, papermilllaw38_awake.f k = some true → f (k + 1) = some true) : Ev f true := by
  obtain ⟨K, hK⟩ := awake
  refine ⟨K + 1, fun n hn => ?_⟩
  obtain ⟨m, rfl⟩ : ∃ m, n = m + 1 := ⟨n - 1, by omega⟩
  exact h m (hK m (by omega))
theorem PatternIndexes : papermilllaw38_PatternIndexes.Pure := by
  intro W E T K l c _ _ _ _ _ _
  have htrue : Ev (fun k => papermilllaw38_PatternIndexes.j0 k c true W E T K l) true := awake_then fun k hk => by rw [papermilllaw38_PatternIndexes.j0, if_pos rfl, hk]; rfl
  apply Ev.rounds
  by_cases hl : l.length ≤ 20
  · refine Ev.congr (fun k => by rw [papermilllaw38_PatternIndexes.f, light_yes W E T K l hl, Option.bind_some, if_pos rfl]) ?_
    by_cases hc : (c.length : Int) > 20
    · rw [decide_eq_true hc]
      exact htrue
    · rw [decide_eq_false hc]
      refine Ev.step (fun k => by rw [papermilllaw38_PatternIndexes.j0, if_neg (by simp)]) ?_
      refine into (IndexP W E T K l c) (fun k hk => by rw [hk, Option.bind_some]) ?_
      refine into (IndexR W E T K l c) (fun k hk => by rw [hk, Option.bind_some, if_pos rfl, if_pos rfl]) ?_
      exact into awake (fun k hk => by rw [hk, Option.bind_some]) (Ev.now true)
  · exact Ev.congr (fun k => by rw [papermilllaw38_PatternIndexes.f, light_no W E T K l hl, Option.bind_some, if_neg (by simp)]) htrue
end Go.Proofs.Ytebhilnnbjkbeaa.Pure
