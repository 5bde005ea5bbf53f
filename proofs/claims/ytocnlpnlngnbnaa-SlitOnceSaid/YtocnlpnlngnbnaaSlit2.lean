/- Slits: maps of runs (Check, At), Turned, Place, Set, Child: the program's and the reference's answer alike. -/
import Derived.Test.YtocnlpnlngnbnaaSlit1
import Derived.Test.YtocnlpnlngnbnaaP39x1
import Derived.Test.YtocnlpnlngnbnaaP39x27
import Derived.Test.YtocnlpnlngnbnaaP39x30
import Derived.Test.YtocnlpnlngnbnaaP39x35
import Derived.Test.YtocnlpnlngnbnaaP39x49
import Derived.Test.YtocnlpnlngnbnaaP39x50
import Derived.Test.YtocnlpnlngnbnaaP39x52
import Derived.Test.YtocnlpnlngnbnaaP39x58
namespace Go.Proofs.Ytocnlpnlngnbnaa.P39
open Go.RowKit Go.Proofs.YtocnlpnlngnbnaaW.PrintWords Go.Proofs.YtocnlpnlngnbnaaW.PrintLast Go.Proofs.YtocnlpnlngnbnaaW.PrintMore
set_option linter.unusedVariables false
set_option linter.unusedSimpArgs false
namespace Slit
open Pat (into w64 rd_at)

theorem rd69 (l : List S69) (i : Nat) (h : i < l.length) : rd_T69 l (i : Int) = l[i] := iso_At.rd_ l i h
theorem rd47 (l : List S47) (i : Nat) (h : i < l.length) : rd_T47 l (i : Int) = l[i] := by
  unfold rd_T47
  rw [Int.toNat_natCast, List.getD_eq_getElem?_getD, List.getElem?_eq_getElem h]
  rfl
/-- A run that is in order. -/
def Run (r : S69) : Prop := 1 ≤ r.f1 ∧ r.f1 ≤ 17179869184 ∧ 0 ≤ r.f0 ∧ r.f0 < 17179869184 ∧ (if r.f2 = true then 0 ≤ r.f0 - r.f1 + 1 else r.f0 + r.f1 ≤ 17179869184)
instance (r : S69) : Decidable (Run r) := by unfold Run; infer_instance
instance (l : List S69) : Decidable (∀ r ∈ l, Run r) := List.decidableBAll (p := Run) l
def lenV : List S69 → Int
  | [] => 0
  | r :: rs => r.f1 + lenV rs
def chkV (m : List S69) : Int := if 256 < m.length then 8 else if ∀ r ∈ m, Run r then (if lenV m > 17179869184 then 21 else 0) else 1
theorem lenV_le (m : List S69) (h : ∀ r ∈ m, Run r) : 0 ≤ lenV m ∧ lenV m ≤ m.length * 17179869184 := by
  induction m with
  | nil => simp [lenV]
  | cons r m ih =>
    have h1 := ih (fun x hx => h x (by simp [hx]))
    have h2 := h r (by simp)
    unfold Run at h2
    simp only [lenV, List.length_cons]
    omega
theorem chk_cons (r : S69) (l : List S69) (n : Int) (hR : Run r) : (if ∀ x ∈ r :: l, Run x then (if n + lenV (r :: l) > 17179869184 then (21 : Int) else 0) else 1) = (if ∀ x ∈ l, Run x then (if n + r.f1 + lenV l > 17179869184 then (21 : Int) else 0) else 1) := by
  by_cases hall : ∀ x ∈ l, Run x
  · rw [if_pos hall, if_pos (by intro x hx; rcases List.mem_cons.1 hx with rfl | hx; exact hR; exact hall x hx), lenV, Int.add_assoc]
  · rw [if_neg hall, if_neg (fun h => hall (fun x hx => h x (by simp [hx])))]
theorem chkP_l0 (m : List S69) (hm : m.length ≤ 256) (d : Nat) : ∀ (i : Nat) (n : Int), i + d = m.length → 0 ≤ n → n ≤ i * 17179869184 →
    Ev (fun k => iso_Check.l0 k n m (m.length : Int) (i : Int)) (if ∀ r ∈ m.drop i, Run r then (if n + lenV (m.drop i) > 17179869184 then 21 else 0) else 1) := by
  induction d with
  | zero =>
    intro i n hi h0 h1
    rw [List.drop_eq_nil_of_le (by omega), if_pos (by simp)]
    simp only [lenV, Int.add_zero]
    by_cases hn : n > 17179869184
    · rw [if_pos hn]
      exact Ev.step (fun k => by rw [iso_Check.l0, if_neg (by omega), if_pos hn]) (Ev.now _)
    · rw [if_neg hn]
      exact Ev.step (fun k => by rw [iso_Check.l0, if_neg (by omega), if_neg hn]) (Ev.now _)
  | succ d ih =>
    intro i n hi h0 h1
    have hil : i < m.length := by omega
    have e := rd69 m i hil
    have hd : m.drop i = m[i] :: m.drop (i + 1) := List.drop_eq_getElem_cons hil
    obtain ⟨r, hr⟩ : ∃ r, r = m[i] := ⟨_, rfl⟩
    rw [← hr] at e hd
    rw [hd]
    by_cases hR : Run r
    · have hR' := hR
      unfold Run at hR
      have := ih (i + 1) (n + r.f1) (by omega) (by omega) (by omega)
      rw [chk_cons r _ n hR']
      refine Ev.step (fun k => by rw [iso_Check.l0, if_pos (by omega), if_pos (by omega), if_pos (by omega), e, if_neg (by omega), if_neg (by omega), if_neg (by omega), decide_eq_false (by omega)]) ?_
      refine Ev.step (fun k => ?_) this
      rw [iso_Check.j1, if_neg (by simp)]
      rcases hb : r.f2 with _ | _
      · rw [hb, if_neg (by simp)] at hR
        rw [if_neg (by simp), w64 (x := r.f0 + r.f1) (by omega) (by omega), if_neg (by omega), w64 (x := n + r.f1) (by omega) (by omega), w64 (x := (i : Int) + 1) (by omega) (by omega)]
        rfl
      · rw [hb, if_pos rfl] at hR
        rw [if_pos rfl, w64 (x := r.f0 - r.f1) (by omega) (by omega), w64 (x := r.f0 - r.f1 + 1) (by omega) (by omega), if_neg (by omega), w64 (x := n + r.f1) (by omega) (by omega), w64 (x := (i : Int) + 1) (by omega) (by omega)]
        rfl
    · rw [if_neg (fun h => hR (h r (by simp)))]
      unfold Run at hR
      have hj : ∀ a b c, Ev (fun k => iso_Check.j1 k n m (m.length : Int) (i : Int) true a b c) 1 := fun a b c => Ev.step (fun k => by rw [iso_Check.j1, if_pos rfl]) (Ev.now _)
      by_cases c1 : r.f1 < 1
      · exact Ev.step (fun k => by rw [iso_Check.l0, if_pos (by omega), if_pos (by omega), if_pos (by omega), e, if_pos c1]) (hj _ _ _)
      by_cases c2 : r.f1 > 17179869184
      · exact Ev.step (fun k => by rw [iso_Check.l0, if_pos (by omega), if_pos (by omega), if_pos (by omega), e, if_neg c1, if_pos c2]) (hj _ _ _)
      by_cases c3 : r.f0 < 0
      · exact Ev.step (fun k => by rw [iso_Check.l0, if_pos (by omega), if_pos (by omega), if_pos (by omega), e, if_neg c1, if_neg c2, if_pos c3]) (hj _ _ _)
      by_cases c4 : r.f0 ≥ 17179869184
      · exact Ev.step (fun k => by rw [iso_Check.l0, if_pos (by omega), if_pos (by omega), if_pos (by omega), e, if_neg c1, if_neg c2, if_neg c3, decide_eq_true c4]) (hj _ _ _)
      refine Ev.step (fun k => by rw [iso_Check.l0, if_pos (by omega), if_pos (by omega), if_pos (by omega), e, if_neg c1, if_neg c2, if_neg c3, decide_eq_false c4]) ?_
      refine Ev.step (fun k => ?_) (Ev.now _)
      rw [iso_Check.j1, if_neg (by simp)]
      rcases hb : r.f2 with _ | _
      · rw [hb, if_neg (by simp)] at hR
        rw [if_neg (by simp), w64 (x := r.f0 + r.f1) (by omega) (by omega), if_pos (by omega)]
      · rw [hb, if_pos rfl] at hR
        rw [if_pos rfl, w64 (x := r.f0 - r.f1) (by omega) (by omega), w64 (x := r.f0 - r.f1 + 1) (by omega) (by omega), if_pos (by omega)]
theorem chkP (m : List S69) : Ev (fun k => iso_Check.f k m) (chkV m) := by
  unfold chkV
  by_cases h : 256 < m.length
  · rw [if_pos h]
    exact Ev.congr (fun k => by rw [iso_Check.f, if_pos (by omega)]) (Ev.now _)
  · rw [if_neg h]
    have := chkP_l0 m (by omega) m.length 0 0 (by omega) (by omega) (by omega)
    rw [List.drop_zero, Int.zero_add] at this
    exact Ev.congr (fun k => by rw [iso_Check.f, if_neg (by omega)]; rfl) this
structure MapOk (m : List S69) : Prop where
  len : m.length ≤ 256
  runs : ∀ r ∈ m, Run r
  sum : lenV m ≤ 17179869184
theorem map_ok {m : List S69} : chkV m = 0 ↔ MapOk m := by
  unfold chkV
  constructor
  · intro h
    by_cases h1 : 256 < m.length
    · rw [if_pos h1] at h; cases h
    rw [if_neg h1] at h
    by_cases h2 : ∀ r ∈ m, Run r
    · rw [if_pos h2] at h
      by_cases h3 : lenV m > 17179869184
      · rw [if_pos h3] at h; cases h
      exact ⟨by omega, h2, by omega⟩
    · rw [if_neg h2] at h; cases h
  · intro h
    have := h.len; have := h.sum
    rw [if_neg (by omega), if_pos h.runs, if_neg (by omega)]
theorem goodR (r : S69) : Ev (fun k => papermillref13_good.f k r.f0 r.f1 r.f2) (decide (Run r)) := by
  have hj : Ev (fun k => papermillref13_good.j0 k true r.f0 r.f1 r.f2) false := Ev.step (fun k => by rw [papermillref13_good.j0, if_pos rfl]) (Ev.now _)
  by_cases c1 : r.f1 < 1
  · rw [decide_eq_false (fun h : Run r => by unfold Run at h; omega)]
    exact Ev.congr (fun k => by rw [papermillref13_good.f, if_pos c1]) hj
  by_cases c2 : r.f1 > 17179869184
  · rw [decide_eq_false (fun h : Run r => by unfold Run at h; omega)]
    exact Ev.congr (fun k => by rw [papermillref13_good.f, if_neg c1, if_pos c2]) hj
  by_cases c3 : r.f0 < 0
  · rw [decide_eq_false (fun h : Run r => by unfold Run at h; omega)]
    exact Ev.congr (fun k => by rw [papermillref13_good.f, if_neg c1, if_neg c2, if_pos c3]) hj
  by_cases c4 : r.f0 ≥ 17179869184
  · rw [decide_eq_false (fun h : Run r => by unfold Run at h; omega)]
    exact Ev.congr (fun k => by rw [papermillref13_good.f, if_neg c1, if_neg c2, if_neg c3, decide_eq_true c4]) hj
  refine Ev.congr (g := fun k => papermillref13_good.f k r.f0 r.f1 r.f2) (fun k => by rw [papermillref13_good.f, if_neg c1, if_neg c2, if_neg c3, decide_eq_false c4]) ?_
  refine Ev.step (fun k => ?_) (Ev.now _)
  rw [papermillref13_good.j0, if_neg (by simp)]
  rcases hb : r.f2 with _ | _
  · rw [if_neg (by simp), w64 (x := r.f0 + r.f1) (by omega) (by omega)]
    congr 1
    rw [decide_eq_decide]
    unfold Run
    rw [hb, if_neg (by simp)]
    omega
  · rw [if_pos rfl, w64 (x := r.f0 - r.f1) (by omega) (by omega), w64 (x := r.f0 - r.f1 + 1) (by omega) (by omega)]
    congr 1
    rw [decide_eq_decide]
    unfold Run
    rw [hb, if_pos rfl]
    omega
theorem lenR_l0 (m : List S69) (hm : m.length ≤ 256) (hr : ∀ r ∈ m, Run r) (d : Nat) : ∀ (i : Nat) (n : Int), i + d = m.length → 0 ≤ n → n ≤ i * 17179869184 → Ev (fun k => papermillref13_length.l0 k m n (i : Int)) (n + lenV (m.drop i)) := by
  induction d with
  | zero =>
    intro i n hi _ _
    rw [List.drop_eq_nil_of_le (by omega)]
    simp only [lenV, Int.add_zero]
    exact Ev.step (fun k => by rw [papermillref13_length.l0, if_neg (by omega)]) (Ev.now _)
  | succ d ih =>
    intro i n hi h0 h1
    have hil : i < m.length := by omega
    have h2 := hr m[i] (List.getElem_mem _)
    unfold Run at h2
    rw [List.drop_eq_getElem_cons hil, lenV, ← Int.add_assoc]
    refine Ev.step (fun k => ?_) (ih (i + 1) (n + m[i].f1) (by omega) (by omega) (by omega))
    rw [papermillref13_length.l0, if_pos (by omega), if_pos (by omega), rd69 m i hil, w64 (x := n + m[i].f1) (by omega) (by omega), w64 (x := (i : Int) + 1) (by omega) (by omega)]
    rfl
theorem lenP_l0 (m : List S69) (hm : m.length ≤ 256) (hr : ∀ r ∈ m, Run r) (d : Nat) : ∀ (i : Nat) (n : Int), i + d = m.length → 0 ≤ n → n ≤ i * 17179869184 → Ev (fun k => iso_length.l0 k n m (m.length : Int) (i : Int)) (n + lenV (m.drop i)) := by
  induction d with
  | zero =>
    intro i n hi _ _
    rw [List.drop_eq_nil_of_le (by omega)]
    simp only [lenV, Int.add_zero]
    exact Ev.step (fun k => by rw [iso_length.l0, if_neg (by omega)]) (Ev.now _)
  | succ d ih =>
    intro i n hi h0 h1
    have hil : i < m.length := by omega
    have h2 := hr m[i] (List.getElem_mem _)
    unfold Run at h2
    rw [List.drop_eq_getElem_cons hil, lenV, ← Int.add_assoc]
    refine Ev.step (fun k => ?_) (ih (i + 1) (n + m[i].f1) (by omega) (by omega) (by omega))
    rw [iso_length.l0, if_pos (by omega), if_pos (by omega), if_pos (by omega), rd69 m i hil, w64 (x := n + m[i].f1) (by omega) (by omega), w64 (x := (i : Int) + 1) (by omega) (by omega)]
    rfl
theorem lenP (m : List S69) (ok : MapOk m) : Ev (fun k => iso_length.f k m) (lenV m) := by
  have := lenP_l0 m ok.len ok.runs m.length 0 0 (by omega) (by omega) (by omega)
  rw [List.drop_zero, Int.zero_add] at this
  exact Ev.congr (fun k => by rw [iso_length.f]; rfl) this
theorem chkR_l0 (m : List S69) (hm : m.length ≤ 256) (d : Nat) : ∀ i : Nat, i + d = m.length → (∀ j, j < i → ∀ h : j < m.length, Run m[j]) → Ev (fun k => papermillref13_Check.l0 k m (i : Int)) (if ∀ r ∈ m, Run r then (if lenV m > 17179869184 then 21 else 0) else 1) := by
  induction d with
  | zero =>
    intro i hi hn
    have hall : ∀ r ∈ m, Run r := by
      intro r hr
      obtain ⟨j, hj, rfl⟩ := List.getElem_of_mem hr
      exact hn j (by omega) hj
    rw [if_pos hall]
    have hl := lenR_l0 m hm hall m.length 0 0 (by omega) (by omega) (by omega)
    rw [List.drop_zero, Int.zero_add] at hl
    refine Ev.step (fun k => by rw [papermillref13_Check.l0, if_neg (by omega)]) ?_
    refine into (g := fun k => papermillref13_length.f k m) (Ev.congr (fun k => by rw [papermillref13_length.f]; rfl) hl) (fun k hk => by rw [hk, Option.bind_some]) ?_
    by_cases h : lenV m > 17179869184
    · rw [if_pos h]
      exact Ev.congr (fun k => by rw [if_pos h]) (Ev.now _)
    · rw [if_neg h]
      exact Ev.congr (fun k => by rw [if_neg h]) (Ev.now _)
  | succ d ih =>
    intro i hi hn
    have hil : i < m.length := by omega
    have hg := goodR m[i]
    refine Ev.step (fun k => by rw [papermillref13_Check.l0, if_pos (by omega), if_pos (by omega), rd69 m i hil]) ?_
    by_cases hR : Run m[i]
    · rw [decide_eq_true hR] at hg
      refine into hg (fun k hk => by rw [hk, Option.bind_some, if_pos rfl, w64 (x := (i : Int) + 1) (by omega) (by omega)]; rfl) (ih (i + 1) (by omega) (fun j hj h => ?_))
      rcases Nat.lt_or_ge j i with h1 | h1
      · exact hn j h1 h
      · obtain rfl : j = i := by omega
        exact hR
    · rw [decide_eq_false hR] at hg
      rw [if_neg (fun h => hR (h _ (List.getElem_mem _)))]
      exact into hg (fun k hk => by rw [hk, Option.bind_some, if_neg (by simp)]) (Ev.now _)
theorem chkR (m : List S69) : Ev (fun k => papermillref13_Check.f k m) (chkV m) := by
  unfold chkV
  by_cases h : 256 < m.length
  · rw [if_pos h]
    exact Ev.congr (fun k => by rw [papermillref13_Check.f, if_pos (by omega)]) (Ev.now _)
  · rw [if_neg h]
    exact Ev.congr (fun k => by rw [papermillref13_Check.f, if_neg (by omega)]; rfl) (chkR_l0 m (by omega) m.length 0 (by omega) (fun j hj => absurd hj (Nat.not_lt_zero j)))

/-! ### At -/
def atV (m : List S69) (x : Int) : Int × Int := if chkV m = 0 then (if x < 0 then (0, 1) else if lenV m ≤ x then (0, 1) else (iso_At.at_ m x, 0)) else (0, chkV m)
theorem atP (m : List S69) (x : Int) : Ev (fun k => iso_At.f k m x) (atV m x) := by
  unfold atV
  by_cases h : chkV m = 0
  · rw [if_pos h]
    have ok := map_ok.1 h
    refine into (chkP m) (fun k hk => by rw [iso_At.f, hk, Option.bind_some, if_pos h]) ?_
    by_cases h1 : x < 0
    · rw [if_pos h1]
      exact Ev.congr (fun k => by rw [if_pos h1]) (Ev.now _)
    · rw [if_neg h1]
      refine Ev.congr (f := fun k => (iso_length.f k m).bind fun n => if n ≤ x then some (0, 1) else if iso_At.good m x then some (iso_At.at_ m x, 0) else none) (fun k => by rw [if_neg h1]) ?_
      refine into (lenP m ok) (fun k hk => by rw [hk, Option.bind_some]) ?_
      by_cases h2 : lenV m ≤ x
      · rw [if_pos h2]
        exact Ev.congr (fun k => by rw [if_pos h2]) (Ev.now _)
      · rw [if_neg h2]
        have hs := ok.sum
        have hg : iso_At.good m x := ⟨ok.len, by omega, by omega, fun r hr => by have := ok.runs r hr; unfold Run at this; omega⟩
        exact Ev.congr (fun k => by rw [if_neg h2, if_pos hg]) (Ev.now _)
  · rw [if_neg h]
    exact into (chkP m) (fun k hk => by rw [iso_At.f, hk, Option.bind_some, if_neg h]) (Ev.now _)
theorem place_out (m : List S69) (hm : m.length ≤ 256) (hr : ∀ r ∈ m, Run r) (d : Nat) : ∀ (i : Nat) (x : Int), i + d = m.length → -17179869184 ≤ x → x ≤ 9223372036854775807 → (x < 0 ∨ lenV (m.drop i) ≤ x) → Ev (fun k => papermillref13_place.l0 k m x (i : Int)) (-1, 0) := by
  induction d with
  | zero =>
    intro i x hi _ _ _
    exact Ev.step (fun k => by rw [papermillref13_place.l0, if_neg (by omega)]) (Ev.step (fun k => by rw [papermillref13_place.j1, if_neg (by simp)]) (Ev.now _))
  | succ d ih =>
    intro i x hi h0 h1 h2
    have hil : i < m.length := by omega
    have hR := hr m[i] (List.getElem_mem _)
    unfold Run at hR
    have hp := lenV_le (m.drop (i + 1)) (fun r hx => hr r (List.mem_of_mem_drop hx))
    refine Ev.step (fun k => by rw [papermillref13_place.l0, if_pos (by omega)]) ?_
    by_cases hx : x < 0
    · rw [decide_eq_false (by omega)]
      exact Ev.step (fun k => by rw [papermillref13_place.j1, if_neg (by simp)]) (Ev.now _)
    · rw [decide_eq_true (by omega)]
      rw [List.drop_eq_getElem_cons hil, lenV] at h2
      refine Ev.step (fun k => ?_) (ih (i + 1) (x - m[i].f1) (by omega) (by omega) (by omega) (by omega))
      rw [papermillref13_place.j1, if_pos rfl, if_pos (by omega), if_pos (by omega), rd69 m i hil, if_neg (by omega), w64 (x := x - m[i].f1) (by omega) (by omega), w64 (x := (i : Int) + 1) (by omega) (by omega)]
      rfl
theorem place_in (m : List S69) (hm : m.length ≤ 256) (hr : ∀ r ∈ m, Run r) (d : Nat) : ∀ (i : Nat) (x : Int), i + d = m.length → 0 ≤ x → x ≤ 9223372036854775807 → x < lenV (m.drop i) →
    ∃ (j : Nat) (y : Int) (h : j < m.length), 0 ≤ y ∧ y < m[j].f1 ∧ iso_At.img m[j] y = iso_At.at_ (m.drop i) x ∧ Ev (fun k => papermillref13_place.l0 k m x (i : Int)) ((j : Int), y) := by
  induction d with
  | zero =>
    intro i x hi h0 _ h1
    rw [List.drop_eq_nil_of_le (by omega)] at h1
    simp only [lenV] at h1
    omega
  | succ d ih =>
    intro i x hi h0 h2 h1
    have hil : i < m.length := by omega
    have hR := hr m[i] (List.getElem_mem _)
    unfold Run at hR
    rw [List.drop_eq_getElem_cons hil] at h1 ⊢
    rw [lenV] at h1
    rw [iso_At.at_]
    by_cases hx : x < m[i].f1
    · refine ⟨i, x, hil, h0, hx, by rw [if_pos hx]; rfl, ?_⟩
      refine Ev.step (fun k => by rw [papermillref13_place.l0, if_pos (by omega), decide_eq_true (by omega)]) (Ev.step (fun k => ?_) (Ev.now _))
      rw [papermillref13_place.j1, if_pos rfl, if_pos (by omega), if_pos (by omega), rd69 m i hil, if_pos hx]
    · obtain ⟨j, y, hj, hy0, hy1, he, hev⟩ := ih (i + 1) (x - m[i].f1) (by omega) (by omega) (by omega) (by omega)
      refine ⟨j, y, hj, hy0, hy1, by rw [if_neg hx, he], ?_⟩
      refine Ev.step (fun k => by rw [papermillref13_place.l0, if_pos (by omega), decide_eq_true (by omega)]) (Ev.step (fun k => ?_) hev)
      rw [papermillref13_place.j1, if_pos rfl, if_pos (by omega), if_pos (by omega), rd69 m i hil, if_neg hx, w64 (x := x - m[i].f1) (by omega) (by omega), w64 (x := (i : Int) + 1) (by omega) (by omega)]
      rfl
theorem place_neg (m : List S69) (x : Int) (hx : x < 0) : Ev (fun k => papermillref13_place.f k m x) (-1, 0) := by
  have hj : Ev (fun k => papermillref13_place.j1 k m x 0 false) (-1, 0) := Ev.step (fun k => by rw [papermillref13_place.j1, if_neg (by simp)]) (Ev.now _)
  by_cases h : (0 : Int) < (m.length : Int)
  · exact Ev.congr (fun k => by rw [papermillref13_place.f]) (Ev.step (fun k => by rw [papermillref13_place.l0, if_pos h, decide_eq_false (by omega)]) hj)
  · exact Ev.congr (fun k => by rw [papermillref13_place.f]) (Ev.step (fun k => by rw [papermillref13_place.l0, if_neg h]) hj)
theorem image_eq (r : S69) (hR : Run r) (y : Int) (h0 : 0 ≤ y) (h1 : y < r.f1) : papermillref13_image.f r.f0 r.f1 r.f2 y = some (iso_At.img r y) := by
  unfold papermillref13_image.f iso_At.img
  unfold Run at hR
  rcases r.f2 with _ | _
  · rw [if_neg (by simp), if_neg (by simp), w64 (by omega) (by omega)]
  · rw [if_pos rfl, if_pos rfl, w64 (by omega) (by omega)]
theorem atR (m : List S69) (x : Int) (hx1 : x ≤ 9223372036854775807) : Ev (fun k => papermillref13_At.f k m x) (atV m x) := by
  unfold atV
  by_cases h : chkV m = 0
  · rw [if_pos h]
    have ok := map_ok.1 h
    refine into (chkR m) (fun k hk => by rw [papermillref13_At.f, hk, Option.bind_some, if_pos h]) ?_
    by_cases h0 : x < 0
    · rw [if_pos h0]
      exact into (place_neg m x h0) (fun k hk => by rw [hk, Option.bind_some, if_pos (show (-1 : Int) < 0 by omega)]) (Ev.now _)
    rw [if_neg h0]
    by_cases h1 : lenV m ≤ x
    · rw [if_pos h1]
      have hp := place_out m ok.len ok.runs m.length 0 x (by omega) (by omega) hx1 (by rw [List.drop_zero]; omega)
      exact into (g := fun k => papermillref13_place.f k m x) (Ev.congr (fun k => by rw [papermillref13_place.f]; rfl) hp) (fun k hk => by rw [hk, Option.bind_some, if_pos (show (-1 : Int) < 0 by omega)]) (Ev.now _)
    · rw [if_neg h1]
      obtain ⟨j, y, hj, hy0, hy1, he, hev⟩ := place_in m ok.len ok.runs m.length 0 x (by omega) (by omega) hx1 (by rw [List.drop_zero]; omega)
      rw [List.drop_zero] at he
      refine into (g := fun k => papermillref13_place.f k m x) (Ev.congr (fun k => by rw [papermillref13_place.f]; rfl) hev) (fun k hk => by rw [hk, Option.bind_some, if_neg (show ¬ (j : Int) < 0 by omega), if_pos (show 0 ≤ (j : Int) by omega), if_pos (show (j : Int) < (m.length : Int) by omega), rd69 m j hj, image_eq m[j] (ok.runs _ (List.getElem_mem _)) y hy0 hy1, Option.bind_some, he]) (Ev.now _)
  · rw [if_neg h]
    exact into (chkR m) (fun k hk => by rw [papermillref13_At.f, hk, Option.bind_some, if_neg h]) (Ev.now _)

/-! ### Turned -/
def Lies (a0 a1 : Int) : Prop := 0 ≤ a0 ∧ 1 ≤ a1 ∧ a0 ≤ 12000 ∧ a1 ≤ 12000 - a0
instance (a0 a1 : Int) : Decidable (Lies a0 a1) := by unfold Lies; infer_instance
def turnV (a0 a1 : Int) (a2 : Bool) (m : List S69) : Int × Int × Bool × List S69 × Int := if Lies a0 a1 then (if chkV m = 0 then (a0, a1, !a2, m, 0) else (0, 0, false, [], chkV m)) else (0, 0, false, [], 1)
theorem lies_eq (a0 a1 : Int) : slit_lies.f a0 a1 12000 = some (decide (Lies a0 a1)) := by
  have h := slit_Check.lies 12000 ⟨a0, a1⟩ (by omega) (by omega)
  rw [h]
  congr 1
  by_cases hl : Lies a0 a1
  · rw [decide_eq_true hl, (bad_iff 12000 ⟨a0, a1⟩).2 hl]
    rfl
  · rw [decide_eq_false hl]
    rcases hb : slit_Check.bad 12000 ⟨a0, a1⟩ with _ | _
    · exact absurd ((bad_iff 12000 ⟨a0, a1⟩).1 hb) hl
    · rfl
theorem turnP (a0 a1 : Int) (a2 : Bool) (m : List S69) : Ev (fun k => slit_Turned.f k a0 a1 a2 m) (turnV a0 a1 a2 m) := by
  unfold turnV
  by_cases hl : Lies a0 a1
  · rw [if_pos hl]
    refine Ev.congr (g := fun k => slit_Turned.f k a0 a1 a2 m) (fun k => by rw [slit_Turned.f, lies_eq, decide_eq_true hl, Option.bind_some, if_pos rfl]) ?_
    by_cases h : chkV m = 0
    · rw [if_pos h]
      have := (map_ok.1 h).len
      exact into (chkP m) (fun k hk => by rw [hk, Option.bind_some, if_pos h, api_Run_39.f, if_pos (by omega), Option.bind_some]) (Ev.now _)
    · rw [if_neg h]
      exact into (chkP m) (fun k hk => by rw [hk, Option.bind_some, if_neg h]) (Ev.now _)
  · rw [if_neg hl]
    exact Ev.congr (fun k => by rw [slit_Turned.f, lies_eq, decide_eq_false hl, Option.bind_some, if_neg (by simp)]) (Ev.now _)
theorem turnR (a0 a1 : Int) (a2 : Bool) (m : List S69) : Ev (fun k => papermillref39_Turned.f k a0 a1 a2 m) (turnV a0 a1 a2 m) := by
  have hj : Ev (fun k => papermillref39_Turned.j0 k true a0 a1 a2 m) (0, 0, false, [], 1) := Ev.step (fun k => by rw [papermillref39_Turned.j0, if_pos rfl]) (Ev.now _)
  unfold turnV
  by_cases c1 : a0 < 0
  · rw [if_neg (fun h : Lies a0 a1 => by unfold Lies at h; omega)]
    exact Ev.congr (fun k => by rw [papermillref39_Turned.f, if_pos c1]) hj
  by_cases c2 : a1 < 1
  · rw [if_neg (fun h : Lies a0 a1 => by unfold Lies at h; omega)]
    exact Ev.congr (fun k => by rw [papermillref39_Turned.f, if_neg c1, if_pos c2]) hj
  by_cases c3 : a0 > 12000
  · rw [if_neg (fun h : Lies a0 a1 => by unfold Lies at h; omega)]
    exact Ev.congr (fun k => by rw [papermillref39_Turned.f, if_neg c1, if_neg c2, if_pos c3]) hj
  have ew : wrap64 (12000 - a0) = 12000 - a0 := w64 (by omega) (by omega)
  by_cases c4 : a1 > 12000 - a0
  · rw [if_neg (fun h : Lies a0 a1 => by unfold Lies at h; omega)]
    exact Ev.congr (fun k => by rw [papermillref39_Turned.f, if_neg c1, if_neg c2, if_neg c3, ew, decide_eq_true c4]) hj
  rw [if_pos (show Lies a0 a1 by unfold Lies; omega)]
  refine Ev.congr (g := fun k => papermillref39_Turned.f k a0 a1 a2 m) (fun k => by rw [papermillref39_Turned.f, if_neg c1, if_neg c2, if_neg c3, ew, decide_eq_false c4]) ?_
  refine Ev.step (fun k => by rw [papermillref39_Turned.j0, if_neg (by simp)]) ?_
  by_cases h : chkV m = 0
  · rw [if_pos h]
    have := (map_ok.1 h).len
    exact into (chkR m) (fun k hk => by rw [hk, Option.bind_some, if_pos h, if_pos (by simp; omega), List.nil_append]) (Ev.now _)
  · rw [if_neg h]
    exact into (chkR m) (fun k hk => by rw [hk, Option.bind_some, if_neg h]) (Ev.now _)

/-! ### Place -/
def placeV (a0 a1 : Int) (a2 : Bool) (m : List S69) (x y : Int) : Int × Int × Int :=
  if Lies a0 a1 ∧ chkV m = 0 then (if x < 0 ∨ a1 ≤ x then (0, 0, 20) else if (atV m y).2 = 0 then (if a2 = true then (a0 + (a1 - 1 - x), (atV m y).1, 0) else (a0 + x, (atV m y).1, 0)) else (0, 0, (atV m y).2)) else (0, 0, (turnV a0 a1 a2 m).2.2.2.2)
theorem turn_err (a0 a1 : Int) (a2 : Bool) (m : List S69) : (turnV a0 a1 a2 m).2.2.2.2 = 0 ↔ Lies a0 a1 ∧ chkV m = 0 := by
  unfold turnV
  by_cases hl : Lies a0 a1
  · rw [if_pos hl]
    by_cases h : chkV m = 0
    · rw [if_pos h]
      exact ⟨fun _ => ⟨hl, h⟩, fun _ => rfl⟩
    · rw [if_neg h]
      exact ⟨fun h2 => absurd h2 h, fun h2 => absurd h2.2 h⟩
  · rw [if_neg hl]
    exact ⟨fun h2 => (by cases h2), fun h2 => absurd h2.1 hl⟩
theorem placeP (a0 a1 : Int) (a2 : Bool) (m : List S69) (x y : Int) : Ev (fun k => slit_Place.f k a0 a1 a2 m x y) (placeV a0 a1 a2 m x y) := by
  unfold placeV
  by_cases h : Lies a0 a1 ∧ chkV m = 0
  · rw [if_pos h]
    have hl := h.1
    unfold Lies at hl
    refine into (turnP a0 a1 a2 m) (fun k hk => by rw [slit_Place.f, hk, Option.bind_some, if_pos ((turn_err a0 a1 a2 m).2 h)]) ?_
    have hj : Ev (fun k => slit_Place.j0 k x y true a0 a1 a2 m) (0, 0, 20) := Ev.step (fun k => by rw [slit_Place.j0, if_pos rfl]) (Ev.now _)
    by_cases c1 : x < 0
    · rw [if_pos (.inl c1)]
      exact Ev.congr (fun k => by rw [if_pos c1]) hj
    by_cases c2 : x ≥ a1
    · rw [if_pos (.inr c2)]
      exact Ev.congr (fun k => by rw [if_neg c1, decide_eq_true c2]) hj
    rw [if_neg (by omega)]
    refine Ev.congr (f := fun k => slit_Place.j0 k x y false a0 a1 a2 m) (fun k => by rw [if_neg c1, decide_eq_false c2]) ?_
    refine Ev.step (fun k => by rw [slit_Place.j0, if_neg (by simp)]) ?_
    by_cases h2 : (atV m y).2 = 0
    · rw [if_pos h2]
      refine into (atP m y) (fun k hk => by rw [hk, Option.bind_some, if_pos h2]) ?_
      rcases a2 with _ | _
      · rw [if_neg (by simp)]
        exact Ev.congr (fun k => by rw [if_neg (by simp), w64 (x := a0 + x) (by omega) (by omega)]) (Ev.now _)
      · rw [if_pos rfl]
        exact Ev.congr (fun k => by rw [if_pos rfl, w64 (x := a1 - 1) (by omega) (by omega), w64 (x := a1 - 1 - x) (by omega) (by omega), w64 (x := a0 + (a1 - 1 - x)) (by omega) (by omega)]) (Ev.now _)
    · rw [if_neg h2]
      exact into (atP m y) (fun k hk => by rw [hk, Option.bind_some, if_neg h2]) (Ev.now _)
  · rw [if_neg h]
    exact into (turnP a0 a1 a2 m) (fun k hk => by rw [slit_Place.f, hk, Option.bind_some, if_neg (fun h2 => h ((turn_err a0 a1 a2 m).1 h2))]) (Ev.now _)
theorem placeR (a0 a1 : Int) (a2 : Bool) (m : List S69) (x y : Int) (hy : y ≤ 9223372036854775807) : Ev (fun k => papermillref39_Place.f k a0 a1 a2 m x y) (placeV a0 a1 a2 m x y) := by
  unfold placeV
  by_cases h : Lies a0 a1 ∧ chkV m = 0
  · rw [if_pos h]
    have hl := h.1
    unfold Lies at hl
    refine into (turnR a0 a1 a2 m) (fun k hk => by rw [papermillref39_Place.f, hk, Option.bind_some, if_pos ((turn_err a0 a1 a2 m).2 h)]) ?_
    have hj : Ev (fun k => papermillref39_Place.j0 k x y true a0 a1 a2 m) (0, 0, 20) := Ev.step (fun k => by rw [papermillref39_Place.j0, if_pos rfl]) (Ev.now _)
    by_cases c1 : x < 0
    · rw [if_pos (.inl c1)]
      exact Ev.congr (fun k => by rw [if_pos c1]) hj
    by_cases c2 : x ≥ a1
    · rw [if_pos (.inr c2)]
      exact Ev.congr (fun k => by rw [if_neg c1, decide_eq_true c2]) hj
    rw [if_neg (by omega)]
    refine Ev.congr (f := fun k => papermillref39_Place.j0 k x y false a0 a1 a2 m) (fun k => by rw [if_neg c1, decide_eq_false c2]) ?_
    refine Ev.step (fun k => by rw [papermillref39_Place.j0, if_neg (by simp)]) ?_
    by_cases h2 : (atV m y).2 = 0
    · rw [if_pos h2]
      refine into (atR m y hy) (fun k hk => by rw [hk, Option.bind_some, if_pos h2]) ?_
      rcases a2 with _ | _
      · rw [if_neg (by simp)]
        exact Ev.congr (fun k => by rw [if_neg (by simp), w64 (x := a0 + x) (by omega) (by omega)]) (Ev.now _)
      · rw [if_pos rfl]
        exact Ev.congr (fun k => by rw [if_pos rfl, w64 (x := a0 + a1) (by omega) (by omega), w64 (x := a0 + a1 - 1) (by omega) (by omega), w64 (x := a0 + a1 - 1 - x) (by omega) (by omega), show a0 + a1 - 1 - x = a0 + (a1 - 1 - x) by omega]) (Ev.now _)
    · rw [if_neg h2]
      exact into (atR m y hy) (fun k hk => by rw [hk, Option.bind_some, if_neg h2]) (Ev.now _)
  · rw [if_neg h]
    exact into (turnR a0 a1 a2 m) (fun k hk => by rw [papermillref39_Place.f, hk, Option.bind_some, if_neg (fun h2 => h ((turn_err a0 a1 a2 m).1 h2))]) (Ev.now _)

/-! ### Equal ones -/
theorem same69_l0 (a : List S69) (ha : a.length ≤ 9000000000000000000) (d : Nat) : ∀ i : Nat, i + d = a.length → Ev (fun k => papermillref13_Same.l0 k a a (i : Int)) true := by
  induction d with
  | zero =>
    intro i hi
    exact Ev.step (fun k => by rw [papermillref13_Same.l0, if_neg (by omega)]) (Ev.now _)
  | succ d ih =>
    intro i hi
    refine Ev.step (fun k => ?_) (ih (i + 1) (by omega))
    rw [papermillref13_Same.l0, if_pos (by omega), if_pos (by omega), if_pos (by omega), if_neg (by simp), w64 (x := (i : Int) + 1) (by omega) (by omega)]
    rfl
theorem same69 (a : List S69) (ha : a.length ≤ 9000000000000000000) : Ev (fun k => papermillref13_Same.f k a a) true :=
  Ev.congr (fun k => by rw [papermillref13_Same.f, if_pos rfl]; rfl) (same69_l0 a ha a.length 0 (by omega))
theorem child (a b : Int) (c : Bool) (m : List S69) (hm : m.length ≤ 9000000000000000000) : Ev (fun k => papermillref39_Child.f k a b c m a b c m) true := by
  refine Ev.congr (g := fun k => papermillref39_Child.f k a b c m a b c m) (fun k => by rw [papermillref39_Child.f, if_pos rfl, if_pos rfl, if_pos (by simp)]) ?_
  exact into (same69 m hm) (fun k hk => by rw [hk, Option.bind_some]) (Ev.now _)
theorem children_l0 (a : List S47) (ha : a.length ≤ 9000000000000000000) (hm : ∀ x ∈ a, x.f3.length ≤ 9000000000000000000) (d : Nat) : ∀ i : Nat, i + d = a.length → Ev (fun k => papermillref39_Children.l0 k a a (i : Int)) true := by
  induction d with
  | zero =>
    intro i hi
    exact Ev.step (fun k => by rw [papermillref39_Children.l0, if_neg (by omega)]) (Ev.now _)
  | succ d ih =>
    intro i hi
    have e := rd47 a i (by omega)
    refine Ev.step (fun k => by rw [papermillref39_Children.l0, if_pos (by omega), if_pos (by omega), if_pos (by omega), w64 (x := (i : Int) + 1) (by omega) (by omega)]) ?_
    exact into (child (rd_T47 a (i : Int)).f0 (rd_T47 a (i : Int)).f1 (rd_T47 a (i : Int)).f2 (rd_T47 a (i : Int)).f3 (by rw [e]; exact hm _ (List.getElem_mem _))) (fun k hk => by rw [hk, Option.bind_some, if_pos rfl]; rfl) (ih (i + 1) (by omega))
theorem children (a : List S47) (ha : a.length ≤ 9000000000000000000) (hm : ∀ x ∈ a, x.f3.length ≤ 9000000000000000000) : Ev (fun k => papermillref39_Children.f k a a) true :=
  Ev.congr (fun k => by rw [papermillref39_Children.f, if_pos rfl]; rfl) (children_l0 a ha hm a.length 0 (by omega))
end Slit
end Go.Proofs.Ytocnlpnlngnbnaa.P39
