/- Slits: the number that is picked; a point of a child of a set. -/
import Derived.Test.YtocnlpnlngnbnaaSlit3
import Derived.Test.YtocnlpnlngnbnaaP39x61
namespace Go.Proofs.Ytocnlpnlngnbnaa.P39
open Go.RowKit Go.Proofs.YtocnlpnlngnbnaaW.PrintWords Go.Proofs.YtocnlpnlngnbnaaW.PrintLast Go.Proofs.YtocnlpnlngnbnaaW.PrintMore
set_option linter.unusedVariables false
set_option linter.unusedSimpArgs false
namespace Slit
open Pat (into w64 rd_at)
theorem pick_in (x n : Int) (h0 : 1 ≤ n) (h1 : n ≤ 100000000000) : ∃ t, papermilllaw39_pick.f x n = some t ∧ 0 ≤ t ∧ t < n := by
  have h2 := Int.tmod_lt_of_pos x (show 0 < n by omega)
  have h3 : -n < Int.tmod x n := by
    have := Int.lt_tmod_of_pos x (show 0 < n by omega)
    omega
  refine ⟨_, by rw [papermilllaw39_pick.f, if_neg (by omega), w64 (x := Int.tmod x n + n) (by omega) (by omega)], ?_, Int.tmod_lt_of_pos _ (by omega)⟩
  exact Int.tmod_nonneg _ (by omega)
/-- What a set's job is, when it has no error. -/
structure Job (w L : Int) (l : List S57) (used len : Int) : Prop where
  ok : Ok w l
  l0 : 1 ≤ L
  l1 : L ≤ 17179869184
  u0 : 0 ≤ used
  n0 : 1 ≤ len
  n1 : len ≤ L - used
theorem job {w L : Int} {l : List S57} {used len : Int} (h : (setV w L l used len).2 = 0) : Job w L l used len ∧ (setV w L l used len).1 = kids L used len l := by
  unfold setV at h ⊢
  by_cases h1 : checkV w l = 0
  · rw [if_pos h1] at h ⊢
    by_cases h2 : L < 1 ∨ L > 17179869184 ∨ used < 0 ∨ used > L ∨ len < 1 ∨ len > 17179869184
    · rw [if_pos h2] at h
      cases h
    · rw [if_neg h2] at h ⊢
      by_cases h3 : len > L - used
      · rw [if_pos h3] at h
        cases h
      · rw [if_neg h3]
        exact ⟨⟨(ok_iff w l).1 h1, by omega, by omega, by omega, by omega, by omega⟩, rfl⟩
  · rw [if_neg h1] at h
    exact absurd h h1
theorem set_err {w L : Int} {l : List S57} {used len : Int} (h : (setV w L l used len).2 ≠ 0) : (setV w L l used len).1 = [] := by
  unfold setV at h ⊢
  by_cases h1 : checkV w l = 0
  · rw [if_pos h1] at h ⊢
    by_cases h2 : L < 1 ∨ L > 17179869184 ∨ used < 0 ∨ used > L ∨ len < 1 ∨ len > 17179869184
    · rw [if_pos h2]
    · rw [if_neg h2] at h ⊢
      by_cases h3 : len > L - used
      · rw [if_pos h3]
      · rw [if_neg h3] at h
        exact absurd rfl h
  · rw [if_neg h1]
theorem run_ok {w L : Int} {l : List S57} {used len : Int} (j : Job w L l used len) : chkV [run L used len] = 0 := by
  have h0 := j.l0; have h1 := j.l1; have h2 := j.u0; have h3 := j.n0; have h4 := j.n1
  refine map_ok.2 ⟨by simp, fun r hr => ?_, by simp [lenV, run]; omega⟩
  obtain rfl : r = run L used len := by simpa using hr
  unfold Run run
  refine ⟨h3, by show len ≤ _; omega, by show (0 : Int) ≤ L - 1 - used; omega, by show L - 1 - used < _; omega, ?_⟩
  show (if decide (len > 1) = true then 0 ≤ L - 1 - used - len + 1 else L - 1 - used + len ≤ 17179869184)
  by_cases hc : len > 1
  · rw [if_pos (decide_eq_true hc)]
    omega
  · rw [if_neg (by simpa using hc)]
    omega
theorem run_at {w L : Int} {l : List S57} {used len : Int} (j : Job w L l used len) (y : Int) : atV [run L used len] y = if y < 0 then (0, 1) else if len ≤ y then (0, 1) else (L - 1 - used - y, 0) := by
  have h3 := j.n0
  have e : lenV [run L used len] = len := by simp [lenV, run]
  unfold atV
  rw [if_pos (run_ok j), e]
  by_cases c1 : y < 0
  · rw [if_pos c1, if_pos c1]
  rw [if_neg c1, if_neg c1]
  by_cases c2 : len ≤ y
  · rw [if_pos c2, if_pos c2]
  rw [if_neg c2, if_neg c2]
  congr 1
  show (if y < len then (if decide (len > 1) = true then L - 1 - used - y else L - 1 - used + y) else iso_At.at_ [] (y - len)) = _
  rw [if_pos (by omega)]
  by_cases hc : len > 1
  · rw [if_pos (decide_eq_true hc)]
  · rw [if_neg (by simpa using hc)]
    omega
theorem kid_place {w L : Int} {l : List S57} {used len : Int} (j : Job w L l used len) (s : S57) (hs : s ∈ l) (x y : Int) : placeV s.f0 s.f1 false [run L used len] x y = if x < 0 ∨ s.f1 ≤ x then (0, 0, 20) else if y < 0 ∨ len ≤ y then (0, 0, 1) else (s.f0 + x, L - 1 - used - y, 0) := by
  have hg := j.ok.good s hs
  have hw := j.ok.w1
  unfold placeV
  rw [if_pos ⟨by unfold Lies; omega, run_ok j⟩, run_at j]
  by_cases c1 : x < 0 ∨ s.f1 ≤ x
  · rw [if_pos c1, if_pos c1]
  rw [if_neg c1, if_neg c1]
  by_cases c2 : y < 0
  · rw [if_pos c2, if_neg (by simp), if_pos (.inl c2)]
  rw [if_neg c2]
  by_cases c3 : len ≤ y
  · rw [if_pos c3, if_neg (by simp), if_pos (.inr c3)]
  rw [if_neg c3, if_pos rfl, if_neg (by simp), if_neg (by omega)]
theorem kids_at (L used len : Int) (l : List S57) (i : Nat) (h : i < l.length) : rd_T47 (kids L used len l) (i : Int) = ⟨l[i].f0, l[i].f1, false, [run L used len]⟩ := by
  rw [rd47 _ i (by simpa [kids] using h)]
  simp [kids]
theorem kids_len (L used len : Int) (l : List S57) : (kids L used len l).length = l.length := by simp [kids]
theorem over_drop (l : List S57) (h : slit_Check.over l = false) : ∀ i : Nat, slit_Check.over (l.drop i) = false := by
  intro i
  induction i with
  | zero => exact h
  | succ i ih =>
    rcases Nat.lt_or_ge i l.length with hi | hi
    · rw [List.drop_eq_getElem_cons hi] at ih
      match hd : l.drop (i + 1), ih with
      | [], _ => rfl
      | y :: m, ih =>
        rw [slit_Check.over] at ih
        exact (Bool.or_eq_false_iff.1 ih).2
    · rw [List.drop_eq_nil_of_le (by omega)]
      rfl
theorem over_next (l : List S57) (h : slit_Check.over l = false) (i : Nat) (hi : i + 1 < l.length) : l[i].f0 + l[i].f1 ≤ l[i + 1].f0 := by
  have := over_drop l h i
  rw [List.drop_eq_getElem_cons (by omega : i < l.length), List.drop_eq_getElem_cons hi, slit_Check.over] at this
  have h2 := (Bool.or_eq_false_iff.1 this).1
  simp only [decide_eq_false_iff_not] at h2
  omega
end Slit
end Go.Proofs.Ytocnlpnlngnbnaa.P39
