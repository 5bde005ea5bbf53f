/- PatternAll: the list is strictly descending, whole and without doubles (no condition). -/
import Derived.Test.YtebhilnnbjkbeaaPat5
import Derived.Test.YtebhilnnbjkbeaaStPatternAll
namespace Go.Proofs.Ytebhilnnbjkbeaa.Pure
open Go.RowKit Go.Proofs.YtebhilnnbjkbeaaW.PrintWords Go.Proofs.YtebhilnnbjkbeaaW.PrintLast Go.Proofs.YtebhilnnbjkbeaaW.PrintMore Go.Proofs.Ytebhilnnbjkbeaa.RowLib Go.Proofs.Ytebhilnnbjkbeaa.P38 Go.Proofs.Ytebhilnnbjkbeaa.P38.Pat
/-- Greater, place by place. -/
def Gt (a b : List Int) : Prop := ∃ (p : List Int) (x y : Int) (r s : List Int), a = p ++ x :: r ∧ b = p ++ y :: s ∧ y < x
theorem Gt.ne {a b : List Int} (h : Gt a b) : a ≠ b := by
  obtain ⟨p, x, y, r, s, rfl, rfl, hxy⟩ := h
  intro e
  have := List.append_cancel_left e
  have := (List.cons.inj this).1
  omega
theorem full_pre (T K : Int) (ss : List Int) : ∀ (c : List Int) (kn left : Int), ∀ x ∈ full T K ss c kn left, ∃ e, x = c ++ e := by
  induction ss with
  | nil =>
    intro c kn left x hx
    rw [full] at hx
    split at hx
    · exact ⟨[], by simpa using hx⟩
    · cases hx
  | cons s ss ih =>
    intro c kn left x hx
    rw [full, List.mem_flatMap] at hx
    obtain ⟨n, _, hx⟩ := hx
    obtain ⟨e, rfl⟩ := ih _ _ _ x hx
    exact ⟨(n : Int) :: e, by simp⟩
theorem full_desc (T K : Int) (ss : List Int) : ∀ (c : List Int) (kn left : Int), (full T K ss c kn left).Pairwise Gt := by
  induction ss with
  | nil =>
    intro c kn left
    rw [full]
    split
    · exact List.pairwise_singleton _ _
    · exact List.Pairwise.nil
  | cons s ss ih =>
    intro c kn left
    rw [full, List.pairwise_flatMap]
    refine ⟨fun n _ => ih _ _ _, ?_⟩
    rw [List.pairwise_reverse]
    refine List.Pairwise.imp ?_ (by first | exact List.pairwise_lt_range | exact List.pairwise_lt_range _)
    intro a b hab x hx y hy
    obtain ⟨e, rfl⟩ := full_pre _ _ _ _ _ _ x hx
    obtain ⟨e', rfl⟩ := full_pre _ _ _ _ _ _ y hy
    exact ⟨c, (b : Int), (a : Int), e, e', by simp, by simp, by omega⟩
theorem pats_gt (W E T K : Int) (l : List Int) {i j : Nat} (hi : i < (pats W E T K l).length) (hj : j < (pats W E T K l).length) (h : i < j) : Gt (pats W E T K l)[i] (pats W E T K l)[j] :=
  List.pairwise_iff_getElem.1 (full_desc T K l [] K (W - 2 * E)) i j hi hj h
theorem pats_inj (W E T K : Int) (l : List Int) {i j : Nat} (hi : i < (pats W E T K l).length) (hj : j < (pats W E T K l).length) (h : (pats W E T K l)[i] = (pats W E T K l)[j]) : i = j := by
  rcases Nat.lt_trichotomy i j with h1 | h1 | h1
  · exact absurd h (pats_gt W E T K l hi hj h1).ne
  · exact h1
  · exact absurd h.symm (pats_gt W E T K l hj hi h1).ne
theorem greater (a b : List Int) (h : Gt a b) (ha : a.length ≤ 1000000) : Ev (fun k => papermilllaw38_greater.f k a b) true := by
  obtain ⟨p, x, y, r, s, rfl, rfl, hxy⟩ := h
  have hL1 : (p ++ x :: r).length = p.length + (r.length + 1) := by simp
  have hL2 : (p ++ y :: s).length = p.length + (s.length + 1) := by simp
  have key : ∀ (d i : Nat), i + d = p.length → Ev (fun k => papermilllaw38_greater.l0 k (p ++ x :: r) (p ++ y :: s) (i : Int)) true := by
    intro d
    induction d with
    | zero =>
      intro i hi
      obtain rfl : i = p.length := by omega
      have e1 : rd (p ++ x :: r) (p.length : Int) = x := by rw [rd_at _ _ (by omega)]; simp
      have e2 : rd (p ++ y :: s) (p.length : Int) = y := by rw [rd_at _ _ (by omega)]; simp
      refine Ev.step (fun k => by rw [papermilllaw38_greater.l0, if_pos (by omega), decide_eq_true (by omega)]) ?_
      refine Ev.step (fun k => ?_) (Ev.now true)
      rw [papermilllaw38_greater.j1, if_pos rfl, if_pos (by omega), if_pos (by omega), if_pos (by omega), e1, e2, if_neg (by omega), decide_eq_true hxy]
    | succ d ih =>
      intro i hi
      have e : rd (p ++ x :: r) (i : Int) = rd (p ++ y :: s) (i : Int) := by rw [rd_at _ i (by omega), rd_at _ i (by omega), List.getElem_append_left (by omega), List.getElem_append_left (by omega)]
      refine Ev.step (fun k => by rw [papermilllaw38_greater.l0, if_pos (by omega), decide_eq_true (by omega)]) ?_
      refine Ev.step (fun k => ?_) (ih (i + 1) (by omega))
      rw [papermilllaw38_greater.j1, if_pos rfl, if_pos (by omega), if_pos (by omega), if_pos (by omega), if_pos e, w64 (x := (i : Int) + 1) (by omega) (by omega)]
      rfl
  exact Ev.congr (fun k => by rw [papermilllaw38_greater.f]; rfl) (key p.length 0 (by omega))
theorem awake_then {f : Nat → Option Bool} (h : ∀ k, papermilllaw38_awake.f k = some true → f (k + 1) = some true) : Ev f true := by
  obtain ⟨K, hK⟩ := awake
  refine ⟨K + 1, fun n hn => ?_⟩
  obtain ⟨m, rfl⟩ : ∃ m, n = m + 1 := ⟨n - 1, by omega⟩
  exact h m (hK m (by omega))
theorem all_j3 (W E T K : Int) (l c : List Int) : Ev (fun k => papermilllaw38_PatternAll.j3 k c (pats W E T K l) W E T K l) true := by
  have hI := IndexP W E T K l c
  by_cases h : FitsE W E T K l c = 0
  · obtain ⟨i, hi, he, _, hv⟩ := index_at h
    obtain ⟨dk, hle, hf⟩ := fits_ok h
    have h8 := dk.le
    have hlen := pats_len W E T K l _ (List.getElem_mem hi)
    rw [he] at hlen
    rw [hv] at hI
    refine Ev.step (fun k => by rw [papermilllaw38_PatternAll.j3]) ?_
    refine into hI (fun k hk => by rw [hk, Option.bind_some]) ?_
    refine into (FitsP W E T K l c) (fun k hk => by rw [hk, Option.bind_some, if_pos h, if_pos rfl, if_pos (show (i : Int) ≥ 0 by omega), if_pos (show (i : Int) < ((pats W E T K l).length : Int) by omega), if_pos (show 0 ≤ (i : Int) by omega)]) ?_
    refine into (ints_same c (by omega)) (fun k hk => by rw [rdL_at _ i hi, he, hk, Option.bind_some, if_pos rfl]) ?_
    exact into awake (fun k hk => by rw [hk, Option.bind_some]) (Ev.now true)
  · unfold IndexV at hI
    rw [if_neg h] at hI
    refine Ev.step (fun k => by rw [papermilllaw38_PatternAll.j3]) ?_
    refine into hI (fun k hk => by rw [hk, Option.bind_some]) ?_
    refine into (FitsP W E T K l c) (fun k hk => by rw [hk, Option.bind_some, if_neg h, if_neg (show ¬ FitsE W E T K l c = 0 from h)]) ?_
    exact into awake (fun k hk => by rw [hk, Option.bind_some]) (Ev.now true)
theorem all_j2 (W E T K : Int) (l c : List Int) (x2 : Int) (b : Bool) (hck : checkErr W E T K l = 0) (hb : b = true → 0 ≤ x2 ∧ x2 < ((pats W E T K l).length : Int)) : Ev (fun k => papermilllaw38_PatternAll.j2 k c x2 (pats W E T K l) b W E T K l) true := by
  cases b with
  | false => exact Ev.step (fun k => by rw [papermilllaw38_PatternAll.j2, if_neg (by simp)]) (all_j3 W E T K l c)
  | true =>
    obtain ⟨h0, h1⟩ := hb rfl
    obtain ⟨i, rfl⟩ : ∃ i : Nat, x2 = (i : Int) := ⟨x2.toNat, by omega⟩
    have hi : i < (pats W E T K l).length := by omega
    have dk := (deck_of_check hck).1
    have hfit := (mem_pats dk _).1 (List.getElem_mem hi)
    have hF : FitsE W E T K l (pats W E T K l)[i] = 0 := by rw [FitsE_of hck]; exact hfit
    obtain ⟨j, hj, he, _, hv⟩ := index_at hF
    have hij : j = i := pats_inj W E T K l hj hi he
    subst hij
    have hI := IndexP W E T K l (pats W E T K l)[j]
    rw [hv] at hI
    refine Ev.step (fun k => by rw [papermilllaw38_PatternAll.j2, if_pos rfl, if_pos (by omega), if_pos (by omega), rdL_at _ _ hi]) ?_
    refine into hI (fun k hk => by rw [hk, Option.bind_some]) ?_
    exact into (FitsP W E T K l _) (fun k hk => by rw [hk, Option.bind_some, if_pos hF, if_pos rfl, if_pos rfl]) (all_j3 W E T K l c)
theorem all_end (W E T K : Int) (l c : List Int) (x2 : Int) (hck : checkErr W E T K l = 0) (i : Nat) (hi : (pats W E T K l).length ≤ i) : Ev (fun k => papermilllaw38_PatternAll.l0 k c x2 (pats W E T K l) (i : Int) W E T K l) true := by
  by_cases h : x2 ≥ 0
  · exact Ev.step (fun k => by rw [papermilllaw38_PatternAll.l0, if_neg (by omega), if_pos h]) (all_j2 W E T K l c x2 _ hck fun hb => ⟨h, of_decide_eq_true hb⟩)
  · exact Ev.step (fun k => by rw [papermilllaw38_PatternAll.l0, if_neg (by omega), if_neg h]) (all_j2 W E T K l c x2 _ hck fun hb => Bool.noConfusion hb)
theorem all_l0 (W E T K : Int) (l c : List Int) (x2 : Int) (hck : checkErr W E T K l = 0) (d : Nat) : ∀ i : Nat, 1 ≤ i → (pats W E T K l).length ≤ i + d → Ev (fun k => papermilllaw38_PatternAll.l0 k c x2 (pats W E T K l) (i : Int) W E T K l) true := by
  obtain ⟨dk, hle⟩ := deck_of_check hck
  have h8 := dk.le
  induction d with
  | zero =>
    intro i _ hi
    exact all_end W E T K l c x2 hck i hi
  | succ d ih =>
    intro i h1 hi
    rcases Nat.lt_or_ge i (pats W E T K l).length with hlt | hge
    · obtain ⟨j, rfl⟩ : ∃ j, i = j + 1 := ⟨i - 1, by omega⟩
      have hlt' : j < (pats W E T K l).length := by omega
      have ej : wrap64 (((j + 1 : Nat) : Int) - 1) = (j : Int) := by unfold wrap64; omega
      have hl1 := pats_len W E T K l _ (List.getElem_mem hlt)
      have hl2 := pats_len W E T K l _ (List.getElem_mem hlt')
      refine Ev.step (f := fun k => (papermilllaw38_greater.f k (pats W E T K l)[j] (pats W E T K l)[j + 1]).bind fun t => if t = true then papermilllaw38_PatternAll.l0 k c x2 (pats W E T K l) ((j + 1 + 1 : Nat) : Int) W E T K l else none) (fun k => ?_) ?_
      · rw [papermilllaw38_PatternAll.l0, if_pos (by omega), if_pos (by omega), rdL_at _ _ hlt, if_pos (by omega), ej, rdL_at _ _ hlt', if_pos (by omega), if_pos (by omega), w64 (x := ((j + 1 : Nat) : Int) + 1) (by omega) (by omega)]
        rfl
      · exact into (greater _ _ (pats_gt W E T K l hlt' hlt (by omega)) (by omega)) (fun k hk => by rw [hk, Option.bind_some, if_pos rfl]) (ih (j + 1 + 1) (by omega) (by omega))
    · exact all_end W E T K l c x2 hck i hge
theorem PatternAll : papermilllaw38_PatternAll.Pure := by
  intro W E T K l c x2 _ _ _ _ _ _ _
  have htrue : Ev (fun k => papermilllaw38_PatternAll.j0 k c x2 true W E T K l) true := awake_then fun k hk => by rw [papermilllaw38_PatternAll.j0, if_pos rfl, hk]; rfl
  apply Ev.rounds
  by_cases hl : l.length ≤ 20
  · by_cases hc : (c.length : Int) > 20
    · exact Ev.congr (fun k => by rw [papermilllaw38_PatternAll.f, light_yes W E T K l hl, Option.bind_some, if_pos rfl, decide_eq_true hc]) htrue
    · refine Ev.congr (g := fun k => papermilllaw38_PatternAll.f k W E T K l c x2) (fun k => by rw [papermilllaw38_PatternAll.f, light_yes W E T K l hl, Option.bind_some, if_pos rfl, decide_eq_false hc]) ?_
      refine Ev.step (fun k => by rw [papermilllaw38_PatternAll.j0, if_neg (by simp)]) ?_
      have hA := AllP W E T K l
      unfold AllV at hA
      by_cases h : checkErr W E T K l = 0
      · rw [if_pos h] at hA
        have hle := (deck_of_check h).2
        refine into hA (fun k hk => by rw [hk, Option.bind_some, if_pos rfl, if_neg (show ¬ ((pats W E T K l).length : Int) > 1024 by omega)]) ?_
        exact all_l0 W E T K l c x2 h (pats W E T K l).length 1 (by omega) (by omega)
      · rw [if_neg h] at hA
        refine into hA (fun k hk => by rw [hk, Option.bind_some, if_neg (show ¬ checkErr W E T K l = 0 from h), if_pos (show (([] : List (List Int)).length : Int) = 0 from rfl)]) ?_
        refine into (check W E T K l) (fun k hk => by rw [hk, Option.bind_some, if_pos rfl]) ?_
        exact into awake (fun k hk => by rw [hk, Option.bind_some]) (Ev.now true)
  · exact Ev.congr (fun k => by rw [papermilllaw38_PatternAll.f, light_no W E T K l hl, Option.bind_some, if_neg (by simp)]) htrue
end Go.Proofs.Ytebhilnnbjkbeaa.Pure
