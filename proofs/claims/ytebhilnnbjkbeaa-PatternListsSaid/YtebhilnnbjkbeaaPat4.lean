/- Patterns: what the program's functions answer; and the reference's Fits, Left and All. -/
import Derived.Test.YtebhilnnbjkbeaaPat3
import Derived.Test.YtebhilnnbjkbeaaP38x2
import Derived.Test.YtebhilnnbjkbeaaP38x10
import Derived.Test.YtebhilnnbjkbeaaP38x11
import Derived.Test.YtebhilnnbjkbeaaP38x12
import Derived.Test.YtebhilnnbjkbeaaP38x14
import Derived.Test.YtebhilnnbjkbeaaP38x16
import Derived.Test.YtebhilnnbjkbeaaP38x19
import Derived.Test.YtebhilnnbjkbeaaP38x25
import Derived.Test.YtebhilnnbjkbeaaP38x26
import Derived.Test.YtebhilnnbjkbeaaP38x28
namespace Go.Proofs.Ytebhilnnbjkbeaa.P38
open Go.RowKit Go.Proofs.YtebhilnnbjkbeaaW.PrintWords Go.Proofs.YtebhilnnbjkbeaaW.PrintLast Go.Proofs.YtebhilnnbjkbeaaW.PrintMore
set_option linter.unusedVariables false
set_option linter.unusedSimpArgs false
namespace Pat

theorem awake : Ev (fun k => papermilllaw38_awake.f k) true := Ev.of (fun k => papermilllaw38_awake.mono k) (k := 40) (by decide +kernel)
theorem light_yes (W E T K : Int) (l : List Int) (h : l.length ≤ 20) : papermilllaw38_light.f W E T K l = some true := by
  unfold papermilllaw38_light.f
  rw [decide_eq_true (by omega)]
theorem light_no (W E T K : Int) (l : List Int) (h : ¬ l.length ≤ 20) : papermilllaw38_light.f W E T K l = some false := by
  unfold papermilllaw38_light.f
  rw [decide_eq_false (by omega)]

noncomputable def FitsE (W E T K : Int) (l c : List Int) : Int := if checkErr W E T K l = 0 then fitErr W E T K l c else checkErr W E T K l
theorem room_err (W E T K : Int) (l c : List Int) : (roomOf W E T K l c).2.2 = fitErr W E T K l c := by
  unfold roomOf
  split
  · rename_i h
    exact h.symm
  · rfl
theorem FitsP (W E T K : Int) (l c : List Int) : Ev (fun k => pattern_Fits.f k W E T K l c) (FitsE W E T K l c) := by
  unfold FitsE
  by_cases h : checkErr W E T K l = 0
  · rw [if_pos h]
    have dk := (deck_of_check h).1
    refine into (check W E T K l) (f := fun k => (pattern_room.f k W E T K l c).bind fun b => some b.2.2) (fun k hk => by rw [pattern_Fits.f, hk, Option.bind_some, if_pos h]) ?_
    exact into (room W E T K l c dk) (fun k hk => by rw [hk, Option.bind_some, room_err]) (Ev.now _)
  · rw [if_neg h]
    exact into (check W E T K l) (fun k hk => by rw [pattern_Fits.f, hk, Option.bind_some, if_neg h]) (Ev.now _)
theorem FitsR (W E T K : Int) (l c : List Int) : Ev (fun k => papermillref38_Fits.f k W E T K l c) (FitsE W E T K l c) := by
  unfold FitsE
  by_cases h : checkErr W E T K l = 0
  · rw [if_pos h]
    have dk := (deck_of_check h).1
    refine into (checkR W E T K l) (f := fun k => (papermillref38_fits.f k W E T K l c).bind fun b => some b) (fun k hk => by rw [papermillref38_Fits.f, hk, Option.bind_some, if_pos h]) ?_
    exact into (fits W E T K l c dk) (fun k hk => by rw [hk, Option.bind_some]) (Ev.now _)
  · rw [if_neg h]
    exact into (checkR W E T K l) (fun k hk => by rw [papermillref38_Fits.f, hk, Option.bind_some, if_neg h]) (Ev.now _)
noncomputable def LeftV (W E T K : Int) (l c : List Int) : Int × Int := if FitsE W E T K l c = 0 then (W - 2 * E - wid c l, 0) else (0, FitsE W E T K l c)
theorem fits_ok {W E T K : Int} {l c : List Int} (h : FitsE W E T K l c = 0) : Deck W E T K l ∧ (pats W E T K l).length ≤ 1024 ∧ fitErr W E T K l c = 0 := by
  unfold FitsE at h
  split at h
  · rename_i h1
    exact ⟨(deck_of_check h1).1, (deck_of_check h1).2, h⟩
  · rename_i h1
    exact absurd h h1
theorem FitsE_of {W E T K : Int} {l c : List Int} (h : checkErr W E T K l = 0) : FitsE W E T K l c = fitErr W E T K l c := if_pos h
theorem check_of_fits {W E T K : Int} {l c : List Int} (h : FitsE W E T K l c = 0) : checkErr W E T K l = 0 := by
  unfold FitsE at h
  split at h
  · assumption
  · rename_i h1
    exact absurd h h1
/-- What a pattern that fits is. -/
structure Fit (W E T K : Int) (l c : List Int) : Prop where
  len : c.length = l.length
  nn : ∀ x ∈ c, 0 ≤ x
  pos : 1 ≤ tot c
  le : tot c ≤ K
  fit : Pat.wid c l ≤ W - 2 * E
  trim : W - 2 * E - Pat.wid c l ≤ T
theorem fit_iff (W E T K : Int) (l c : List Int) : fitErr W E T K l c = 0 ↔ Fit W E T K l c := by
  unfold fitErr
  by_cases hl : c.length = l.length
  · rw [if_pos hl]
    by_cases hn : ∃ x ∈ c, x < 0
    · rw [if_pos hn]
      exact ⟨fun h => by omega, fun h => by obtain ⟨x, hx, h1⟩ := hn; have := h.nn x hx; omega⟩
    · rw [if_neg hn]
      have hnn : ∀ x ∈ c, 0 ≤ x := fun x hx => by
        rcases Int.lt_or_le x 0 with h | h
        · exact absurd ⟨x, hx, h⟩ hn
        · exact h
      have h0 := tot_nonneg c hnn
      unfold tail4
      constructor
      · intro h
        by_cases a1 : tot c = 0
        · rw [if_pos a1] at h; omega
        rw [if_neg a1] at h
        by_cases a2 : K < tot c
        · rw [if_pos a2] at h; omega
        rw [if_neg a2] at h
        by_cases a3 : W - 2 * E < wid c l
        · rw [if_pos a3] at h; omega
        rw [if_neg a3] at h
        by_cases a4 : T < W - 2 * E - wid c l
        · rw [if_pos a4] at h; omega
        exact ⟨hl, hnn, by omega, by omega, by omega, by omega⟩
      · intro h
        have := h.pos; have := h.le; have := h.fit; have := h.trim
        rw [if_neg (by omega), if_neg (by omega), if_neg (by omega), if_neg (by omega)]
  · rw [if_neg hl]
    exact ⟨fun h => by omega, fun h => absurd h.len hl⟩

theorem LeftP (W E T K : Int) (l c : List Int) : Ev (fun k => pattern_Left.f k W E T K l c) (LeftV W E T K l c) := by
  unfold LeftV FitsE
  by_cases h : checkErr W E T K l = 0
  · rw [if_pos h]
    have dk := (deck_of_check h).1
    refine into (check W E T K l) (f := fun k => (pattern_room.f k W E T K l c).bind fun b => some (b.2.1, b.2.2)) (fun k hk => by rw [pattern_Left.f, hk, Option.bind_some, if_pos h]) ?_
    refine into (room W E T K l c dk) (fun k hk => ?_) (Ev.now _)
    rw [hk, Option.bind_some]
    unfold roomOf
    by_cases h1 : fitErr W E T K l c = 0
    · rw [if_pos h1, if_pos h1]
    · rw [if_neg h1, if_neg h1]
  · rw [if_neg h, if_neg h]
    exact into (check W E T K l) (fun k hk => by rw [pattern_Left.f, hk, Option.bind_some, if_neg h]) (Ev.now _)
theorem left_l0 (W E T K : Int) (l c : List Int) (dk : Deck W E T K l) (ft : Fit W E T K l c) (d : Nat) : ∀ (i : Nat) (q : Int), i + d = c.length → W - 2 * E - 144000 * i ≤ q → q ≤ W - 2 * E →
    Ev (fun k => papermillref38_Left.l0 k c q (i : Int) W E T K l) (q - wid (c.drop i) (l.drop i), 0) := by
  have h8 := dk.le
  have hl := ft.len
  have g := dk.good
  have gw := g.w1
  have gk := g.k1
  have ge := g.e0
  induction d with
  | zero =>
    intro i q hi _ _
    rw [List.drop_eq_nil_of_le (by omega), List.drop_eq_nil_of_le (by omega)]
    simp only [wid, Int.sub_zero]
    exact Ev.step (fun k => by rw [papermillref38_Left.l0, if_neg (by omega)]) (Ev.now _)
  | succ d ih =>
    intro i q hi h0 h1
    have hci := ft.nn _ (rd_mem c i (by omega))
    have hc2 := tot_mem c ft.nn _ (rd_mem c i (by omega))
    have hK := ft.le
    have hs := dk.rng _ (rd_mem l i (by omega))
    have hm := mulb hci (show rd c (i : Int) ≤ 12 by omega) (show 0 ≤ rd l (i : Int) by omega) (show rd l (i : Int) ≤ 12000 by omega) (by omega)
    have := ih (i + 1) (q - rd c (i : Int) * rd l (i : Int)) (by omega) (by omega) (by omega)
    rw [wid_drop c l i (by omega) hl, show q - (rd c (i : Int) * rd l (i : Int) + wid (c.drop (i + 1)) (l.drop (i + 1))) = q - rd c (i : Int) * rd l (i : Int) - wid (c.drop (i + 1)) (l.drop (i + 1)) by omega]
    refine Ev.step (fun k => ?_) this
    rw [papermillref38_Left.l0, if_pos (by omega), if_pos (by omega), if_pos (by omega), w64 (x := rd c (i : Int) * rd l (i : Int)) (by omega) (by omega), w64 (x := q - rd c (i : Int) * rd l (i : Int)) (by omega) (by omega), w64 (x := (i : Int) + 1) (by omega) (by omega)]
    rfl
theorem LeftR (W E T K : Int) (l c : List Int) : Ev (fun k => papermillref38_Left.f k W E T K l c) (LeftV W E T K l c) := by
  unfold LeftV
  by_cases h : FitsE W E T K l c = 0
  · rw [if_pos h]
    obtain ⟨dk, _, hf⟩ := fits_ok h
    have ft := (fit_iff W E T K l c).1 hf
    have := left_l0 W E T K l c dk ft c.length 0 (W - 2 * E) (by omega) (by omega) (by omega)
    simp only [List.drop_zero] at this
    exact into (FitsR W E T K l c) (fun k hk => by rw [papermillref38_Left.f, hk, Option.bind_some, if_pos h, usableR W E T K l dk.good, Option.bind_some]; rfl) this
  · rw [if_neg h]
    exact into (FitsR W E T K l c) (fun k hk => by rw [papermillref38_Left.f, hk, Option.bind_some, if_neg h]) (Ev.now _)

noncomputable def AllV (W E T K : Int) (l : List Int) : List (List Int) × Int := if checkErr W E T K l = 0 then (pats W E T K l, 0) else ([], checkErr W E T K l)
theorem AllP (W E T K : Int) (l : List Int) : Ev (fun k => pattern_All.f k W E T K l) (AllV W E T K l) := by
  unfold AllV
  by_cases h : checkErr W E T K l = 0
  · rw [if_pos h]
    obtain ⟨dk, hle⟩ := deck_of_check h
    have e := list_f W E T K l dk 1024 (by omega)
    rw [List.take_of_length_le hle] at e
    exact into (check W E T K l) (fun k hk => by rw [pattern_All.f, hk, Option.bind_some, if_pos h, show (1024 : Int) = ((1024 : Nat) : Int) from rfl, e, Option.bind_some]) (Ev.now _)
  · rw [if_neg h]
    exact into (check W E T K l) (fun k hk => by rw [pattern_All.f, hk, Option.bind_some, if_neg h]) (Ev.now _)
theorem AllR (W E T K : Int) (l : List Int) : Ev (fun k => papermillref38_All.f k W E T K l) (AllV W E T K l) := by
  unfold AllV
  by_cases h : checkErr W E T K l = 0
  · rw [if_pos h]
    obtain ⟨dk, hle⟩ := deck_of_check h
    have e := all_f W E T K l dk
    rw [List.take_of_length_le (by omega)] at e
    refine into (checkR W E T K l) (f := fun k => (papermillref38_all.f k W E T K l [] K (W - 2 * E) [] 1024).bind fun t => some (t, 0)) (fun k hk => by rw [papermillref38_All.f, hk, Option.bind_some, if_pos h, usableR W E T K l dk.good, Option.bind_some]) ?_
    exact into e (fun k hk => by rw [hk, Option.bind_some]) (Ev.now _)
  · rw [if_neg h]
    exact into (checkR W E T K l) (fun k hk => by rw [papermillref38_All.f, hk, Option.bind_some, if_neg h]) (Ev.now _)

/-! ### Equal lists -/
theorem ints_l0 (a : List Int) (ha : a.length ≤ 9000000000000000000) (d : Nat) : ∀ i : Nat, i + d = a.length → Ev (fun k => papermillref38_Ints.l0 k a a (i : Int)) true := by
  induction d with
  | zero =>
    intro i hi
    exact Ev.step (fun k => by rw [papermillref38_Ints.l0, if_neg (by omega)]) (Ev.now _)
  | succ d ih =>
    intro i hi
    refine Ev.step (fun k => ?_) (ih (i + 1) (by omega))
    rw [papermillref38_Ints.l0, if_pos (by omega), if_pos (by omega), if_pos (by omega), if_pos rfl, w64 (x := (i : Int) + 1) (by omega) (by omega)]
    rfl
theorem ints_same (a : List Int) (ha : a.length ≤ 9000000000000000000) : Ev (fun k => papermillref38_Ints.f k a a) true :=
  Ev.congr (fun k => by rw [papermillref38_Ints.f, if_pos rfl]; rfl) (ints_l0 a ha a.length 0 (by omega))
theorem rdL_at (l : List (List Int)) (i : Nat) (h : i < l.length) : rd_L1 l (i : Int) = l[i] := by
  unfold rd_L1
  rw [Int.toNat_natCast, List.getD_eq_getElem?_getD, List.getElem?_eq_getElem h]
  rfl
theorem same_l0 (a : List (List Int)) (ha : a.length ≤ 9000000000000000000) (hx : ∀ x ∈ a, x.length ≤ 9000000000000000000) (d : Nat) : ∀ i : Nat, i + d = a.length → Ev (fun k => papermillref38_Same.l0 k a a (i : Int)) true := by
  induction d with
  | zero =>
    intro i hi
    exact Ev.step (fun k => by rw [papermillref38_Same.l0, if_neg (by omega)]) (Ev.now _)
  | succ d ih =>
    intro i hi
    have hm : rd_L1 a (i : Int) ∈ a := by rw [rdL_at a i (by omega)]; exact List.getElem_mem _
    refine Ev.step (f := fun k => (papermillref38_Ints.f k (rd_L1 a (i : Int)) (rd_L1 a (i : Int))).bind fun t => if t = true then papermillref38_Same.l0 k a a ((i + 1 : Nat) : Int) else some false) (fun k => ?_) (into (ints_same _ (hx _ hm)) (fun k hk => by rw [hk, Option.bind_some, if_pos rfl]) (ih (i + 1) (by omega)))
    rw [papermillref38_Same.l0, if_pos (by omega), if_pos (by omega), if_pos (by omega), w64 (x := (i : Int) + 1) (by omega) (by omega)]
    rfl
theorem same_same (a : List (List Int)) (ha : a.length ≤ 9000000000000000000) (hx : ∀ x ∈ a, x.length ≤ 9000000000000000000) : Ev (fun k => papermillref38_Same.f k a a) true :=
  Ev.congr (fun k => by rw [papermillref38_Same.f, if_pos rfl]; rfl) (same_l0 a ha hx a.length 0 (by omega))
theorem full_len (T K : Int) (ss : List Int) : ∀ (c : List Int) (kn left : Int), ∀ x ∈ full T K ss c kn left, x.length = c.length + ss.length := by
  induction ss with
  | nil =>
    intro c kn left x hx
    rw [full] at hx
    split at hx
    · have : x = c := by simpa using hx
      rw [this]; rfl
    · cases hx
  | cons s ss ih =>
    intro c kn left x hx
    rw [full, List.mem_flatMap] at hx
    obtain ⟨n, _, hx⟩ := hx
    have := ih _ _ _ x hx
    rw [List.length_append, List.length_singleton] at this
    rw [List.length_cons]
    omega
theorem pats_len (W E T K : Int) (l : List Int) : ∀ x ∈ pats W E T K l, x.length = l.length := fun x hx => by
  have := full_len T K l [] K (W - 2 * E) x hx
  simpa using this
end Pat
end Go.Proofs.Ytebhilnnbjkbeaa.P38
