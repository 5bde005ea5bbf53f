/- Slits: Check, Trim, Same: the program's and the reference's answer alike. -/
import Derived.Test.YtocnlpnlngnbnaaPat0
import Derived.Test.YtocnlpnlngnbnaaP39x11
import Derived.Test.YtocnlpnlngnbnaaP39x36
import Derived.Test.YtocnlpnlngnbnaaP39x38
namespace Go.Proofs.Ytocnlpnlngnbnaa.P39
open Go.RowKit Go.Proofs.YtocnlpnlngnbnaaW.PrintWords Go.Proofs.YtocnlpnlngnbnaaW.PrintLast Go.Proofs.YtocnlpnlngnbnaaW.PrintMore
set_option linter.unusedVariables false
set_option linter.unusedSimpArgs false
namespace Slit
open Pat (into w64 rd_at)

def checkV (width : Int) (l : List S57) : Int := if width < 1 ∨ width > 12000 then 1 else if 12 < l.length then 8 else if l.any (slit_Check.bad width) = true then 20 else if slit_Check.over l = true then 12 else 0
theorem checkP (width : Int) (l : List S57) : slit_Check.f width l = some (checkV width l) := rfl
theorem rd57 (l : List S57) (i : Nat) (h : i < l.length) : rd_T57 l (i : Int) = l[i] := slit_Check.rd_ l i h
theorem bad_iff (width : Int) (x : S57) : slit_Check.bad width x = false ↔ 0 ≤ x.f0 ∧ 1 ≤ x.f1 ∧ x.f0 ≤ width ∧ x.f1 ≤ width - x.f0 := by
  constructor
  · exact slit_Check.good
  · intro h
    unfold slit_Check.bad
    rw [decide_eq_true h.1, decide_eq_true h.2.1, decide_eq_true h.2.2.1, decide_eq_true h.2.2.2]
    rfl
theorem ref_l1 (width : Int) (l : List S57) (hl : l.length ≤ 12) (hw : width ≤ 12000) (hg : ∀ x ∈ l, slit_Check.bad width x = false) (d : Nat) : ∀ i : Nat, l.length ≤ i + 1 + d → i ≤ 100 → Ev (fun k => papermillref39_Check.l1 k l ((i : Int) + 1)) (if slit_Check.over (l.drop i) = true then 12 else 0) := by
  induction d with
  | zero =>
    intro i hi _
    have h1 : slit_Check.over (l.drop i) = false := by
      rcases Nat.lt_or_ge i l.length with h | h
      · rw [List.drop_eq_getElem_cons h, List.drop_eq_nil_of_le (by omega)]
        rfl
      · rw [List.drop_eq_nil_of_le h]
        rfl
    rw [h1, if_neg (by simp)]
    exact Ev.step (fun k => by rw [papermillref39_Check.l1, if_neg (by omega)]) (Ev.now _)
  | succ d ih =>
    intro i hi hi2
    by_cases hlt : i + 1 < l.length
    · have hx := slit_Check.good (hg l[i] (List.getElem_mem _))
      have hy := slit_Check.good (hg l[i + 1] (List.getElem_mem _))
      have hov : slit_Check.over (l.drop i) = (decide ((l[i + 1]).f0 < (l[i]'(by omega)).f0 + (l[i]'(by omega)).f1) || slit_Check.over (l.drop (i + 1))) := by
        rw [List.drop_eq_getElem_cons (by omega : i < l.length), List.drop_eq_getElem_cons hlt, slit_Check.over]
      have e1 : rd_T57 l ((i : Int) + 1) = l[i + 1] := by
        have := rd57 l (i + 1) hlt
        rwa [show ((i + 1 : Nat) : Int) = (i : Int) + 1 by omega] at this
      have e2 : wrap64 ((i : Int) + 1 - 1) = (i : Int) := by unfold wrap64; omega
      have e3 := rd57 l i (by omega)
      rw [hov]
      by_cases hc : (l[i + 1]).f0 < (l[i]'(by omega)).f0 + (l[i]'(by omega)).f1
      · rw [decide_eq_true hc, Bool.true_or, if_pos rfl]
        refine Ev.step (fun k => ?_) (Ev.now _)
        rw [papermillref39_Check.l1, if_pos (by omega), if_pos (by omega), e2, if_pos (by omega), if_pos (by omega), e1, e3, w64 (x := (l[i]'(by omega)).f0 + (l[i]'(by omega)).f1) (by omega) (by omega), if_pos hc]
      · rw [decide_eq_false hc, Bool.false_or]
        refine Ev.step (fun k => ?_) (ih (i + 1) (by omega) (by omega))
        rw [papermillref39_Check.l1, if_pos (by omega), if_pos (by omega), e2, if_pos (by omega), if_pos (by omega), e1, e3, w64 (x := (l[i]'(by omega)).f0 + (l[i]'(by omega)).f1) (by omega) (by omega), if_neg hc, w64 (x := (i : Int) + 1 + 1) (by omega) (by omega)]
        rfl
    · have h1 : slit_Check.over (l.drop i) = false := by
        rcases Nat.lt_or_ge i l.length with h | h
        · rw [List.drop_eq_getElem_cons h, List.drop_eq_nil_of_le (by omega)]
          rfl
        · rw [List.drop_eq_nil_of_le h]
          rfl
      rw [h1, if_neg (by simp)]
      exact Ev.step (fun k => by rw [papermillref39_Check.l1, if_neg (by omega)]) (Ev.now _)
theorem ref_l0 (width : Int) (l : List S57) (hl : l.length ≤ 12) (hw0 : 1 ≤ width) (hw : width ≤ 12000) (d : Nat) : ∀ i : Nat, i + d = l.length → (∀ j, j < i → ∀ h : j < l.length, slit_Check.bad width l[j] = false) → Ev (fun k => papermillref39_Check.l0 k width l (i : Int)) (if l.any (slit_Check.bad width) = true then 20 else if slit_Check.over l = true then 12 else 0) := by
  induction d with
  | zero =>
    intro i hi hn
    have hg : ∀ x ∈ l, slit_Check.bad width x = false := by
      intro x hx
      obtain ⟨j, hj, rfl⟩ := List.getElem_of_mem hx
      exact hn j (by omega) hj
    have ha : l.any (slit_Check.bad width) = false := by
      rw [List.any_eq_false]
      intro x hx
      rw [hg x hx]
      simp
    rw [ha, if_neg (by simp)]
    have := ref_l1 width l hl hw hg l.length 0 (by omega) (by omega)
    exact Ev.step (fun k => by rw [papermillref39_Check.l0, if_neg (by omega)]; rfl) this
  | succ d ih =>
    intro i hi hn
    have hil : i < l.length := by omega
    have e := rd57 l i hil
    by_cases hb : slit_Check.bad width l[i] = false
    · have hx := slit_Check.good hb
      refine Ev.step (fun k => ?_) (ih (i + 1) (by omega) (fun j hj h => ?_))
      · rw [papermillref39_Check.l0, if_pos (by omega), if_pos (by omega), e, if_neg (by omega), if_neg (by omega), if_neg (by omega), w64 (x := width - l[i].f0) (by omega) (by omega), if_neg (by omega), w64 (x := (i : Int) + 1) (by omega) (by omega)]
        rfl
      · rcases Nat.lt_or_ge j i with h1 | h1
        · exact hn j h1 h
        · obtain rfl : j = i := by omega
          exact hb
    · have hb' : slit_Check.bad width l[i] = true := by simpa using hb
      have ha : l.any (slit_Check.bad width) = true := List.any_eq_true.2 ⟨l[i], List.getElem_mem _, hb'⟩
      rw [ha, if_pos rfl]
      refine Ev.step (fun k => ?_) (Ev.now _)
      rw [papermillref39_Check.l0, if_pos (by omega), if_pos (by omega), e]
      rw [bad_iff] at hb
      by_cases c1 : l[i].f0 < 0
      · rw [if_pos c1]
      rw [if_neg c1]
      by_cases c2 : l[i].f1 < 1
      · rw [if_pos c2]
      rw [if_neg c2]
      by_cases c3 : l[i].f0 > width
      · rw [if_pos c3]
      rw [if_neg c3, w64 (x := width - l[i].f0) (by omega) (by omega), if_pos (by omega)]
theorem checkR (width : Int) (l : List S57) : Ev (fun k => papermillref39_Check.f k width l) (checkV width l) := by
  unfold checkV
  by_cases h0 : width < 1
  · rw [if_pos (.inl h0)]
    exact Ev.congr (fun k => by rw [papermillref39_Check.f, if_pos h0]) (Ev.step (fun k => by rw [papermillref39_Check.j0, if_pos rfl]) (Ev.now _))
  by_cases h1 : width > 12000
  · rw [if_pos (.inr h1)]
    exact Ev.congr (fun k => by rw [papermillref39_Check.f, if_neg h0, decide_eq_true h1]) (Ev.step (fun k => by rw [papermillref39_Check.j0, if_pos rfl]) (Ev.now _))
  rw [if_neg (by omega)]
  refine Ev.congr (g := fun k => papermillref39_Check.f k width l) (fun k => by rw [papermillref39_Check.f, if_neg h0, decide_eq_false h1]) ?_
  by_cases h2 : 12 < l.length
  · rw [if_pos h2]
    exact Ev.step (fun k => by rw [papermillref39_Check.j0, if_neg (by simp), if_pos (by omega)]) (Ev.now _)
  rw [if_neg h2]
  exact Ev.step (fun k => by rw [papermillref39_Check.j0, if_neg (by simp), if_neg (by omega)]; rfl) (ref_l0 width l (by omega) (by omega) (by omega) l.length 0 (by omega) (fun j hj => absurd hj (Nat.not_lt_zero j)))
/-- What a check that passes says. -/
structure Ok (width : Int) (l : List S57) : Prop where
  w0 : 1 ≤ width
  w1 : width ≤ 12000
  len : l.length ≤ 12
  good : ∀ x ∈ l, 0 ≤ x.f0 ∧ 1 ≤ x.f1 ∧ x.f0 ≤ width ∧ x.f1 ≤ width - x.f0
  over : slit_Check.over l = false
theorem ok_iff (width : Int) (l : List S57) : checkV width l = 0 ↔ Ok width l := by
  unfold checkV
  constructor
  · intro h
    by_cases h0 : width < 1 ∨ width > 12000
    · rw [if_pos h0] at h; cases h
    rw [if_neg h0] at h
    by_cases h1 : 12 < l.length
    · rw [if_pos h1] at h; cases h
    rw [if_neg h1] at h
    by_cases h2 : l.any (slit_Check.bad width) = true
    · rw [if_pos h2] at h; cases h
    rw [if_neg h2] at h
    by_cases h3 : slit_Check.over l = true
    · rw [if_pos h3] at h; cases h
    refine ⟨by omega, by omega, by omega, fun x hx => ?_, by simpa using h3⟩
    refine slit_Check.good ?_
    rcases hb : slit_Check.bad width x with _ | _
    · rfl
    · exact absurd (List.any_eq_true.2 ⟨x, hx, hb⟩) h2
  · intro h
    have := h.w0; have := h.w1; have := h.len
    rw [if_neg (by omega), if_neg (by omega), if_neg, if_neg (by rw [h.over]; simp)]
    intro ha
    obtain ⟨x, hx, hb⟩ := List.any_eq_true.1 ha
    rw [(bad_iff width x).2 (h.good x hx)] at hb
    cases hb

/-! ### Trim -/
def gaps (width : Int) : List S57 → Int → List S57
  | [], at_ => if width > at_ then [⟨at_, width - at_⟩] else []
  | s :: l, at_ => (if s.f0 > at_ then [⟨at_, s.f0 - at_⟩] else []) ++ gaps width l (s.f0 + s.f1)
def trimV (width : Int) (l : List S57) : List S57 × Int := if checkV width l = 0 then (gaps width l 0, 0) else ([], checkV width l)
theorem trimP_l0 (width : Int) (l : List S57) (ok : Ok width l) (d : Nat) : ∀ (i : Nat) (out : List S57) (at_ : Int), i + d = l.length → out.length ≤ i → 0 ≤ at_ → at_ ≤ 12000 →
    Ev (fun k => slit_Trim.l0 k out at_ (l ++ [⟨width, 0⟩]) (((l ++ [(⟨width, 0⟩ : S57)]).length : Nat) : Int) (i : Int)) (out ++ gaps width (l.drop i) at_, 0) := by
  have h0 := ok.w0
  have h1 := ok.w1
  have h2 := ok.len
  have hL : (l ++ [(⟨width, 0⟩ : S57)]).length = l.length + 1 := by simp
  induction d with
  | zero =>
    intro i out at_ hi ho ha0 ha1
    have e : rd_T57 (l ++ [(⟨width, 0⟩ : S57)]) (i : Int) = ⟨width, 0⟩ := by
      rw [rd57 _ i (by omega), List.getElem_append_right (by omega)]
      simp
    have hend : ∀ (o : List S57) (a : Int), Ev (fun k => slit_Trim.l0 k o a (l ++ [⟨width, 0⟩]) (((l ++ [(⟨width, 0⟩ : S57)]).length : Nat) : Int) ((i + 1 : Nat) : Int)) (o, 0) := fun o a => Ev.step (fun k => by rw [slit_Trim.l0, if_neg (by omega)]) (Ev.now _)
    rw [List.drop_eq_nil_of_le (by omega), gaps]
    by_cases hc : width > at_
    · rw [if_pos hc]
      refine Ev.step (fun k => ?_) (hend _ (wrap64 (width + 0)))
      rw [slit_Trim.l0, if_pos (by omega), if_pos (by omega), if_pos (by omega), e, if_pos hc, if_pos (by omega), w64 (x := width - at_) (by omega) (by omega), w64 (x := (i : Int) + 1) (by omega) (by omega)]
      rfl
    · rw [if_neg hc, List.append_nil]
      refine Ev.step (fun k => ?_) (hend _ (wrap64 (width + 0)))
      rw [slit_Trim.l0, if_pos (by omega), if_pos (by omega), if_pos (by omega), e, if_neg hc, w64 (x := (i : Int) + 1) (by omega) (by omega)]
      rfl
  | succ d ih =>
    intro i out at_ hi ho ha0 ha1
    have hil : i < l.length := by omega
    have e : rd_T57 (l ++ [(⟨width, 0⟩ : S57)]) (i : Int) = l[i] := by
      rw [rd57 _ i (by omega), List.getElem_append_left hil]
    have hx := ok.good l[i] (List.getElem_mem _)
    rw [List.drop_eq_getElem_cons hil, gaps]
    by_cases hc : l[i].f0 > at_
    · rw [if_pos hc, ← List.append_assoc]
      refine Ev.step (fun k => ?_) (ih (i + 1) (out ++ [⟨at_, l[i].f0 - at_⟩]) (l[i].f0 + l[i].f1) (by omega) (by simp; omega) (by omega) (by omega))
      rw [slit_Trim.l0, if_pos (by omega), if_pos (by omega), if_pos (by omega), e, if_pos hc, if_pos (by omega), w64 (x := l[i].f0 - at_) (by omega) (by omega), w64 (x := (i : Int) + 1) (by omega) (by omega), w64 (x := l[i].f0 + l[i].f1) (by omega) (by omega)]
      rfl
    · rw [if_neg hc, List.nil_append]
      refine Ev.step (fun k => ?_) (ih (i + 1) out (l[i].f0 + l[i].f1) (by omega) (by omega) (by omega) (by omega))
      rw [slit_Trim.l0, if_pos (by omega), if_pos (by omega), if_pos (by omega), e, if_neg hc, w64 (x := (i : Int) + 1) (by omega) (by omega), w64 (x := l[i].f0 + l[i].f1) (by omega) (by omega)]
      rfl
theorem trimP (width : Int) (l : List S57) : Ev (fun k => slit_Trim.f k width l) (trimV width l) := by
  unfold trimV
  by_cases h : checkV width l = 0
  · rw [if_pos h]
    have ok := (ok_iff width l).1 h
    have h2 := ok.len
    have := trimP_l0 width l ok l.length 0 [] 0 (by omega) (by simp) (by omega) (by omega)
    refine Ev.congr (fun k => ?_) this
    rw [slit_Trim.f, checkP, Option.bind_some, if_pos h, api_Strip_32.f, if_pos (by omega), Option.bind_some, if_pos (by omega), Option.bind_some]
    rfl
  · rw [if_neg h]
    exact Ev.congr (fun k => by rw [slit_Trim.f, checkP, Option.bind_some, if_neg h]) (Ev.now _)
theorem trimR_l0 (width : Int) (l : List S57) (ok : Ok width l) (d : Nat) : ∀ (i : Nat) (out : List S57) (at_ : Int), i + d = l.length → out.length ≤ i → 0 ≤ at_ → at_ ≤ 12000 →
    Ev (fun k => papermillref39_Trim.l0 k width l out at_ (i : Int)) (out ++ gaps width (l.drop i) at_, 0) := by
  have h0 := ok.w0
  have h1 := ok.w1
  have h2 := ok.len
  induction d with
  | zero =>
    intro i out at_ hi ho ha0 ha1
    have hend : ∀ (o : List S57) (a : Int), Ev (fun k => papermillref39_Trim.l0 k width l o a ((i + 1 : Nat) : Int)) (o, 0) := fun o a => Ev.step (fun k => by rw [papermillref39_Trim.l0, if_neg (by omega)]) (Ev.now _)
    rw [List.drop_eq_nil_of_le (by omega), gaps]
    refine Ev.step (fun k => by rw [papermillref39_Trim.l0, if_pos (by omega), if_neg (by omega)]) ?_
    by_cases hc : width > at_
    · rw [if_pos hc]
      refine Ev.step (fun k => ?_) (hend _ at_)
      rw [papermillref39_Trim.j1, if_pos hc, if_pos (by omega), Option.bind_some, if_neg (by omega), w64 (x := width - at_) (by omega) (by omega), w64 (x := (i : Int) + 1) (by omega) (by omega)]
      rfl
    · rw [if_neg hc, List.append_nil]
      refine Ev.step (fun k => ?_) (hend _ at_)
      rw [papermillref39_Trim.j1, if_neg hc, if_neg (by omega), w64 (x := (i : Int) + 1) (by omega) (by omega)]
      rfl
  | succ d ih =>
    intro i out at_ hi ho ha0 ha1
    have hil : i < l.length := by omega
    have e : rd_T57 l (i : Int) = l[i] := rd57 _ i hil
    have hx := ok.good l[i] (List.getElem_mem _)
    rw [List.drop_eq_getElem_cons hil, gaps]
    refine Ev.step (fun k => by rw [papermillref39_Trim.l0, if_pos (by omega), if_pos (by omega), if_pos (by omega), e]) ?_
    by_cases hc : l[i].f0 > at_
    · rw [if_pos hc, ← List.append_assoc]
      refine Ev.step (fun k => ?_) (ih (i + 1) (out ++ [⟨at_, l[i].f0 - at_⟩]) (l[i].f0 + l[i].f1) (by omega) (by simp; omega) (by omega) (by omega))
      rw [papermillref39_Trim.j1, if_pos hc, if_pos (by omega), Option.bind_some, if_pos (by omega), if_pos (by omega), e, w64 (x := l[i].f0 - at_) (by omega) (by omega), w64 (x := (i : Int) + 1) (by omega) (by omega), w64 (x := l[i].f0 + l[i].f1) (by omega) (by omega)]
      rfl
    · rw [if_neg hc, List.nil_append]
      refine Ev.step (fun k => ?_) (ih (i + 1) out (l[i].f0 + l[i].f1) (by omega) (by omega) (by omega) (by omega))
      rw [papermillref39_Trim.j1, if_neg hc, if_pos (by omega), if_pos (by omega), e, w64 (x := (i : Int) + 1) (by omega) (by omega), w64 (x := l[i].f0 + l[i].f1) (by omega) (by omega)]
      rfl
theorem trimR (width : Int) (l : List S57) : Ev (fun k => papermillref39_Trim.f k width l) (trimV width l) := by
  unfold trimV
  by_cases h : checkV width l = 0
  · rw [if_pos h]
    have ok := (ok_iff width l).1 h
    have := trimR_l0 width l ok l.length 0 [] 0 (by omega) (by simp) (by omega) (by omega)
    exact into (checkR width l) (fun k hk => by rw [papermillref39_Trim.f, hk, Option.bind_some, if_pos h]; rfl) this
  · rw [if_neg h]
    exact into (checkR width l) (fun k hk => by rw [papermillref39_Trim.f, hk, Option.bind_some, if_neg h]) (Ev.now _)
theorem same_l0 (a : List S57) (ha : a.length ≤ 9000000000000000000) (d : Nat) : ∀ i : Nat, i + d = a.length → Ev (fun k => papermillref39_Same.l0 k a a (i : Int)) true := by
  induction d with
  | zero =>
    intro i hi
    exact Ev.step (fun k => by rw [papermillref39_Same.l0, if_neg (by omega)]) (Ev.now _)
  | succ d ih =>
    intro i hi
    refine Ev.step (fun k => ?_) (ih (i + 1) (by omega))
    rw [papermillref39_Same.l0, if_pos (by omega), if_pos (by omega), if_pos (by omega), if_neg (by simp), w64 (x := (i : Int) + 1) (by omega) (by omega)]
    rfl
theorem same (a : List S57) (ha : a.length ≤ 9000000000000000000) : Ev (fun k => papermillref39_Same.f k a a) true :=
  Ev.congr (fun k => by rw [papermillref39_Same.f, if_pos rfl]; rfl) (same_l0 a ha a.length 0 (by omega))
theorem gaps_len (width : Int) (l : List S57) : ∀ at_, (gaps width l at_).length ≤ l.length + 1 := by
  induction l with
  | nil => intro a; rw [gaps]; split <;> simp
  | cons s l ih =>
    intro a
    have := ih (s.f0 + s.f1)
    rw [gaps, List.length_append]
    split
    · simp; omega
    · simp; omega
theorem trim_len (width : Int) (l : List S57) : (trimV width l).1.length ≤ 13 := by
  unfold trimV
  by_cases h : checkV width l = 0
  · rw [if_pos h]
    have := gaps_len width l 0
    have := ((ok_iff width l).1 h).len
    simp only
    omega
  · rw [if_neg h]
    simp
end Slit
end Go.Proofs.Ytocnlpnlngnbnaa.P39
