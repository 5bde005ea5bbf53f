/- PatternMaximals: for every deckle and pattern, Maximal of the program and of the reference answer alike (no condition). -/
import Derived.Test.YtebhilnnbjkbeaaPat6
import Derived.Test.YtebhilnnbjkbeaaStPatternMaximals
import Derived.Test.YtebhilnnbjkbeaaP38x32
namespace Go.Proofs.Ytebhilnnbjkbeaa.Pure
open Go.RowKit Go.Proofs.YtebhilnnbjkbeaaW.PrintWords Go.Proofs.YtebhilnnbjkbeaaW.PrintLast Go.Proofs.YtebhilnnbjkbeaaW.PrintMore Go.Proofs.Ytebhilnnbjkbeaa.RowLib Go.Proofs.Ytebhilnnbjkbeaa.P38 Go.Proofs.Ytebhilnnbjkbeaa.P38.Pat
open Classical in
theorem max_l0 (W E T K : Int) (l c : List Int) (dk : Deck W E T K l) (ft : Fit W E T K l c) (d : Nat) : ∀ i : Nat, i + d = c.length → (∀ j, j < i → ∀ h : j < c.length, ¬ Fit W E T K l (c.set j (c[j] + 1))) →
    Ev (fun k => papermillref38_Maximal.l0 k c (i : Int) W E T K l) (decide (¬ ∃ (i : Nat) (h : i < c.length), Fit W E T K l (c.set i (c[i] + 1))), 0) := by
  have h8 := dk.le
  have hl := ft.len
  induction d with
  | zero =>
    intro i hi hn
    rw [show decide (¬ ∃ (i : Nat) (h : i < c.length), Fit W E T K l (c.set i (c[i] + 1))) = true from decide_eq_true (fun ⟨j, hj, hf⟩ => hn j (by omega) hj hf)]
    exact Ev.step (fun k => by rw [papermillref38_Maximal.l0, if_neg (by omega)]) (Ev.now _)
  | succ d ih =>
    intro i hi hn
    have hil : i < c.length := by omega
    have hci := ft.nn _ (List.getElem_mem hil)
    have hc2 := tot_mem c ft.nn _ (List.getElem_mem hil)
    have hK := ft.le
    have hK2 := dk.good.k1
    have ew : wrap64 (rd c (i : Int) + 1) = c[i] + 1 := by rw [rd_at c i hil]; exact w64 (by omega) (by omega)
    refine Ev.step (f := fun k => (papermillref38_fits.f k W E T K l (c.set i (c[i] + 1))).bind fun t => if t = 0 then some (false, 0) else papermillref38_Maximal.l0 k c ((i + 1 : Nat) : Int) W E T K l) (fun k => ?_) ?_
    · rw [papermillref38_Maximal.l0, if_pos (by omega)]
      simp only [Option.bind_some, List.nil_append, List.length_nil, Nat.zero_add]
      rw [if_pos (by omega), if_pos (by omega), if_pos (by omega), ew, Int.toNat_natCast, w64 (x := (i : Int) + 1) (by omega) (by omega)]
      rfl
    · by_cases hf : fitErr W E T K l (c.set i (c[i] + 1)) = 0
      · rw [show decide (¬ ∃ (i : Nat) (h : i < c.length), Fit W E T K l (c.set i (c[i] + 1))) = false from decide_eq_false (fun h => h ⟨i, hil, (fit_iff W E T K l _).1 hf⟩)]
        exact into (fits W E T K l _ dk) (fun k hk => by rw [hk, Option.bind_some, if_pos hf]) (Ev.now _)
      · refine into (fits W E T K l _ dk) (fun k hk => by rw [hk, Option.bind_some, if_neg hf]) (ih (i + 1) (by omega) (fun j hj hjl h => ?_))
        rcases Nat.lt_or_ge j i with h1 | h1
        · exact hn j h1 hjl h
        · obtain rfl : j = i := by omega
          exact hf ((fit_iff W E T K l _).2 h)
theorem MaxR (W E T K : Int) (l c : List Int) : Ev (fun k => papermillref38_Maximal.f k W E T K l c) (MaxV W E T K l c) := by
  unfold MaxV
  by_cases h : FitsE W E T K l c = 0
  · rw [if_pos h]
    obtain ⟨dk, _, hf⟩ := fits_ok h
    have := max_l0 W E T K l c dk ((fit_iff W E T K l c).1 hf) c.length 0 (by omega) (fun j hj => absurd hj (Nat.not_lt_zero j))
    exact into (FitsR W E T K l c) (fun k hk => by rw [papermillref38_Maximal.f, hk, Option.bind_some, if_pos h]; rfl) this
  · rw [if_neg h]
    exact into (FitsR W E T K l c) (fun k hk => by rw [papermillref38_Maximal.f, hk, Option.bind_some, if_neg h]) (Ev.now _)
theorem awake_then {f : Nat → Option Bool} (h : ∀ k, papermilllaw38_awake.f k = some true → f (k + 1) = some true) : Ev f true := by
  obtain ⟨K, hK⟩ := awake
  refine ⟨K + 1, fun n hn => ?_⟩
  obtain ⟨m, rfl⟩ : ∃ m, n = m + 1 := ⟨n - 1, by omega⟩
  exact h m (hK m (by omega))
theorem PatternMaximals : papermilllaw38_PatternMaximals.Pure := by
  intro W E T K l c _ _ _ _ _ _
  have htrue : Ev (fun k => papermilllaw38_PatternMaximals.j0 k c true W E T K l) true := awake_then fun k hk => by rw [papermilllaw38_PatternMaximals.j0, if_pos rfl, hk]; rfl
  apply Ev.rounds
  by_cases hl : l.length ≤ 20
  · refine Ev.congr (fun k => by rw [papermilllaw38_PatternMaximals.f, light_yes W E T K l hl, Option.bind_some, if_pos rfl]) ?_
    by_cases hc : (c.length : Int) > 20
    · rw [decide_eq_true hc]
      exact htrue
    · rw [decide_eq_false hc]
      refine Ev.step (fun k => by rw [papermilllaw38_PatternMaximals.j0, if_neg (by simp)]) ?_
      refine into (MaxP W E T K l c) (fun k hk => by rw [hk, Option.bind_some]) ?_
      refine into (MaxR W E T K l c) (fun k hk => by rw [hk, Option.bind_some, beq_self_eq_true, if_pos rfl, if_pos rfl]) ?_
      exact into awake (fun k hk => by rw [hk, Option.bind_some]) (Ev.now true)
  · exact Ev.congr (fun k => by rw [papermilllaw38_PatternMaximals.f, light_no W E T K l hl, Option.bind_some, if_neg (by simp)]) htrue
end Go.Proofs.Ytebhilnnbjkbeaa.Pure
