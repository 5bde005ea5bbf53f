/- Slits: Set; and that the examples are awake. -/
import Derived.Test.YtocnlpnlngnbnaaSlit2
import Derived.Test.YtocnlpnlngnbnaaP39x36
import Derived.Test.YtocnlpnlngnbnaaP39x48
import Derived.Test.YtocnlpnlngnbnaaP39x49
namespace Go.Proofs.Ytocnlpnlngnbnaa.P39
open Go.RowKit Go.Proofs.YtocnlpnlngnbnaaW.PrintWords Go.Proofs.YtocnlpnlngnbnaaW.PrintLast Go.Proofs.YtocnlpnlngnbnaaW.PrintMore
set_option linter.unusedVariables false
set_option linter.unusedSimpArgs false
namespace Slit
open Pat (into w64 rd_at)

theorem awake : Ev (fun k => papermilllaw39_awake.f k) true := Ev.of (fun k => papermilllaw39_awake.mono k) (k := 40) (by decide +kernel)
theorem awake_then {f : Nat → Option Bool} (h : ∀ k, papermilllaw39_awake.f k = some true → f (k + 1) = some true) : Ev f true := by
  obtain ⟨K, hK⟩ := awake
  refine ⟨K + 1, fun n hn => ?_⟩
  obtain ⟨m, rfl⟩ : ∃ m, n = m + 1 := ⟨n - 1, by omega⟩
  exact h m (hK m (by omega))
def run (L used len : Int) : S69 := ⟨L - 1 - used, len, decide (len > 1)⟩
def kids (L used len : Int) (l : List S57) : List S47 := l.map fun s => ⟨s.f0, s.f1, false, [run L used len]⟩
def setV (w L : Int) (l : List S57) (used len : Int) : List S47 × Int :=
  if checkV w l = 0 then (if L < 1 ∨ L > 17179869184 ∨ used < 0 ∨ used > L ∨ len < 1 ∨ len > 17179869184 then ([], 1) else if len > L - used then ([], 21) else (kids L used len l, 0)) else ([], checkV w l)
theorem kids_take (L used len : Int) (l : List S57) (i : Nat) (h : i < l.length) : kids L used len (l.take i) ++ [⟨l[i].f0, l[i].f1, false, [run L used len]⟩] = kids L used len (l.take (i + 1)) := by
  unfold kids
  rw [List.take_succ_eq_append_getElem h, List.map_append]
  rfl
theorem setP_l0 (L used len : Int) (l : List S57) (hl : l.length ≤ 12) (d : Nat) : ∀ i : Nat, i + d = l.length → Ev (fun k => slit_Set.l0 k (List.replicate l.length (run L used len)) (kids L used len (l.take i)) l (l.length : Int) (i : Int)) (kids L used len l, 0) := by
  induction d with
  | zero =>
    intro i hi
    rw [List.take_of_length_le (by omega)]
    exact Ev.step (fun k => by rw [slit_Set.l0, if_neg (by omega)]) (Ev.now _)
  | succ d ih =>
    intro i hi
    have hil : i < l.length := by omega
    have e := rd57 l i hil
    have ew : wrap64 ((i : Int) + 1) = ((i + 1 : Nat) : Int) := by unfold wrap64; omega
    have hc : ((List.replicate l.length (run L used len)).take ((i + 1 : Nat) : Int).toNat).drop (i : Int).toNat = [run L used len] := by
      rw [Int.toNat_natCast, Int.toNat_natCast, List.take_replicate, List.drop_replicate, show min (i + 1) l.length - i = 1 by omega]
      rfl
    have hk : (kids L used len (l.take i)).length ≤ 12 := by
      unfold kids
      rw [List.length_map, List.length_take]
      omega
    refine Ev.step (fun k => ?_) (ih (i + 1) (by omega))
    rw [slit_Set.l0, if_pos (by omega), if_pos (by omega), if_pos (by omega), ew, if_pos (by omega), if_pos (by rw [List.length_replicate]; omega), if_pos (by omega), e, hc, kids_take L used len l i hil]
theorem setP (w L : Int) (l : List S57) (used len : Int) : Ev (fun k => slit_Set.f k w L l used len) (setV w L l used len) := by
  unfold setV
  by_cases h : checkV w l = 0
  · rw [if_pos h]
    have hl := ((ok_iff w l).1 h).len
    have hj : Ev (fun k => slit_Set.j0 k L l true used len) ([], 1) := Ev.step (fun k => by rw [slit_Set.j0, if_pos rfl]) (Ev.now _)
    by_cases c1 : L < 1
    · rw [if_pos (.inl c1)]
      exact Ev.congr (fun k => by rw [slit_Set.f, checkP, Option.bind_some, if_pos h, if_pos c1]) hj
    by_cases c2 : L > 17179869184
    · rw [if_pos (by omega)]
      exact Ev.congr (fun k => by rw [slit_Set.f, checkP, Option.bind_some, if_pos h, if_neg c1, if_pos c2]) hj
    by_cases c3 : used < 0
    · rw [if_pos (by omega)]
      exact Ev.congr (fun k => by rw [slit_Set.f, checkP, Option.bind_some, if_pos h, if_neg c1, if_neg c2, if_pos c3]) hj
    by_cases c4 : used > L
    · rw [if_pos (by omega)]
      exact Ev.congr (fun k => by rw [slit_Set.f, checkP, Option.bind_some, if_pos h, if_neg c1, if_neg c2, if_neg c3, if_pos c4]) hj
    by_cases c5 : len < 1
    · rw [if_pos (by omega)]
      exact Ev.congr (fun k => by rw [slit_Set.f, checkP, Option.bind_some, if_pos h, if_neg c1, if_neg c2, if_neg c3, if_neg c4, if_pos c5]) hj
    by_cases c6 : len > 17179869184
    · rw [if_pos (by omega)]
      exact Ev.congr (fun k => by rw [slit_Set.f, checkP, Option.bind_some, if_pos h, if_neg c1, if_neg c2, if_neg c3, if_neg c4, if_neg c5, decide_eq_true c6]) hj
    rw [if_neg (by omega)]
    refine Ev.congr (g := fun k => slit_Set.f k w L l used len) (fun k => by rw [slit_Set.f, checkP, Option.bind_some, if_pos h, if_neg c1, if_neg c2, if_neg c3, if_neg c4, if_neg c5, decide_eq_false c6]) ?_
    have e1 : wrap64 (L - used) = L - used := w64 (by omega) (by omega)
    by_cases c7 : len > L - used
    · rw [if_pos c7]
      exact Ev.step (fun k => by rw [slit_Set.j0, if_neg (by simp), e1, if_pos c7]) (Ev.now _)
    · rw [if_neg c7]
      have := setP_l0 L used len l hl l.length 0 (by omega)
      rw [List.take_zero] at this
      refine Ev.step (fun k => ?_) this
      have e2 : api_Run_45.f [(⟨wrap64 (wrap64 (L - 1) - used), len, decide (len > 1)⟩ : S69)] (l.length : Int) = some (List.replicate l.length (run L used len)) := by
        unfold api_Run_45.f
        rw [if_pos ⟨rfl, by omega, by omega⟩, w64 (x := L - 1) (by omega) (by omega), w64 (x := L - 1 - used) (by omega) (by omega), Int.toNat_natCast]
        rfl
      rw [slit_Set.j0, if_neg (by simp), e1, if_neg c7, e2, Option.bind_some]
      rfl
  · rw [if_neg h]
    exact Ev.congr (fun k => by rw [slit_Set.f, checkP, Option.bind_some, if_neg h]) (Ev.now _)
theorem set_ (w L : Int) (l : List S57) (used len : Int) : Ev (fun k => papermilllaw39_set.f k w L l used len) (setV w L l used len) :=
  into (setP w L l used len) (fun k hk => by rw [papermilllaw39_set.f, hk, Option.bind_some]) (Ev.now _)
theorem setR_l0 (L used len : Int) (l : List S57) (hl : l.length ≤ 12) (h0 : 1 ≤ L) (h1 : L ≤ 17179869184) (h2 : 0 ≤ used) (h3 : used ≤ L) (d : Nat) : ∀ i : Nat, i + d = l.length → Ev (fun k => papermillref39_Set.l0 k L l (kids L used len (l.take i)) (i : Int) used len) (kids L used len l, 0) := by
  induction d with
  | zero =>
    intro i hi
    rw [List.take_of_length_le (by omega)]
    exact Ev.step (fun k => by rw [papermillref39_Set.l0, if_neg (by omega)]) (Ev.now _)
  | succ d ih =>
    intro i hi
    have hil : i < l.length := by omega
    have e := rd57 l i hil
    have ew : wrap64 ((i : Int) + 1) = ((i + 1 : Nat) : Int) := by unfold wrap64; omega
    have hk : (kids L used len (l.take i)).length ≤ 12 := by
      unfold kids
      rw [List.length_map, List.length_take]
      omega
    have er : (⟨wrap64 (wrap64 (L - 1) - used), len, decide (len > 1)⟩ : S69) = run L used len := by
      rw [w64 (x := L - 1) (by omega) (by omega), w64 (x := L - 1 - used) (by omega) (by omega)]
      rfl
    refine Ev.step (fun k => ?_) (ih (i + 1) (by omega))
    rw [papermillref39_Set.l0, if_pos (by omega), if_pos (by omega), if_pos (by omega), ew, e, er, kids_take L used len l i hil]
theorem setR (w L : Int) (l : List S57) (used len : Int) : Ev (fun k => papermillref39_Set.f k w L l used len) (setV w L l used len) := by
  unfold setV
  by_cases h : checkV w l = 0
  · rw [if_pos h]
    have hl := ((ok_iff w l).1 h).len
    have hj : Ev (fun k => papermillref39_Set.j0 k L l true used len) ([], 1) := Ev.step (fun k => by rw [papermillref39_Set.j0, if_pos rfl]) (Ev.now _)
    refine into (checkR w l) (fun k hk => by rw [papermillref39_Set.f, hk, Option.bind_some, if_pos h]) ?_
    by_cases c1 : L < 1
    · rw [if_pos (.inl c1)]
      exact Ev.congr (fun k => by rw [if_pos c1]) hj
    by_cases c2 : L > 17179869184
    · rw [if_pos (by omega)]
      exact Ev.congr (fun k => by rw [if_neg c1, if_pos c2]) hj
    by_cases c3 : used < 0
    · rw [if_pos (by omega)]
      exact Ev.congr (fun k => by rw [if_neg c1, if_neg c2, if_pos c3]) hj
    by_cases c4 : used > L
    · rw [if_pos (by omega)]
      exact Ev.congr (fun k => by rw [if_neg c1, if_neg c2, if_neg c3, if_pos c4]) hj
    by_cases c5 : len < 1
    · rw [if_pos (by omega)]
      exact Ev.congr (fun k => by rw [if_neg c1, if_neg c2, if_neg c3, if_neg c4, if_pos c5]) hj
    by_cases c6 : len > 17179869184
    · rw [if_pos (by omega)]
      exact Ev.congr (fun k => by rw [if_neg c1, if_neg c2, if_neg c3, if_neg c4, if_neg c5, decide_eq_true c6]) hj
    rw [if_neg (by omega)]
    refine Ev.congr (f := fun k => papermillref39_Set.j0 k L l false used len) (fun k => by rw [if_neg c1, if_neg c2, if_neg c3, if_neg c4, if_neg c5, decide_eq_false c6]) ?_
    have e1 : wrap64 (L - used) = L - used := w64 (by omega) (by omega)
    by_cases c7 : len > L - used
    · rw [if_pos c7]
      exact Ev.step (fun k => by rw [papermillref39_Set.j0, if_neg (by simp), e1, if_pos c7]) (Ev.now _)
    · rw [if_neg c7]
      have := setR_l0 L used len l hl (by omega) (by omega) (by omega) (by omega) l.length 0 (by omega)
      rw [List.take_zero] at this
      exact Ev.step (fun k => by rw [papermillref39_Set.j0, if_neg (by simp), e1, if_neg c7]; rfl) this
  · rw [if_neg h]
    exact into (checkR w l) (fun k hk => by rw [papermillref39_Set.f, hk, Option.bind_some, if_neg h]) (Ev.now _)
theorem set_small (w L : Int) (l : List S57) (used len : Int) : (setV w L l used len).1.length ≤ 12 ∧ ∀ x ∈ (setV w L l used len).1, x.f3.length ≤ 1 := by
  unfold setV
  by_cases h : checkV w l = 0
  · rw [if_pos h]
    have hl := ((ok_iff w l).1 h).len
    split
    · exact ⟨by simp, fun x hx => by cases hx⟩
    · split
      · exact ⟨by simp, fun x hx => by cases hx⟩
      · refine ⟨by simpa [kids] using hl, fun x hx => ?_⟩
        simp only [kids, List.mem_map] at hx
        obtain ⟨s, _, rfl⟩ := hx
        simp
  · rw [if_neg h]
    exact ⟨by simp, fun x hx => by cases hx⟩
end Slit
end Go.Proofs.Ytocnlpnlngnbnaa.P39
