/- Patterns: the list of all that fit, in descending order: the program's, cut at its length; the reference's. -/
import Derived.Test.YtebhilnnbjkbeaaPat2
import Derived.Test.YtebhilnnbjkbeaaP38x6
import Derived.Test.YtebhilnnbjkbeaaP38x22
import Derived.Test.YtebhilnnbjkbeaaP38x24
namespace Go.Proofs.Ytebhilnnbjkbeaa.P38
open Go.RowKit Go.Proofs.YtebhilnnbjkbeaaW.PrintWords Go.Proofs.YtebhilnnbjkbeaaW.PrintLast Go.Proofs.YtebhilnnbjkbeaaW.PrintMore
set_option linter.unusedVariables false
set_option linter.unusedSimpArgs false
namespace Pat

/-- All completions of a pattern that begins with c. -/
def full (T K : Int) : List Int → List Int → Int → Int → List (List Int)
  | [], c, kn, left => if left ≤ T ∧ kn < K then [c] else []
  | s :: ss, c, kn, left => (List.range ((min kn (left / s)).toNat + 1)).reverse.flatMap fun (n : Nat) => full T K ss (c ++ [(n : Int)]) (kn - n) (left - n * s)

theorem fold_take {α : Type} (most : Nat) (step : List α → Nat → List α) (g : Nat → List α) (ns : List Nat) : ∀ out : List α, out.length ≤ most → (∀ n ∈ ns, ∀ o : List α, o.length ≤ most → step o n = (o ++ g n).take most) →
    ns.foldl step out = (out ++ ns.flatMap g).take most := by
  induction ns with
  | nil =>
    intro out h _
    simp [List.take_of_length_le h]
  | cons n ns ih =>
    intro out h hs
    rw [List.foldl_cons, hs n (by simp) out h, ih _ (by rw [List.length_take]; omega) (fun m hm => hs m (by simp [hm])), List.flatMap_cons]
    rw [← List.append_assoc]
    rcases Nat.le_total (out ++ g n).length most with h1 | h1
    · rw [List.take_of_length_le h1]
    · rw [List.take_append_of_le_length (by rw [List.length_take]; omega), List.take_append_of_le_length h1, List.take_take, Nat.min_self]

theorem range_mem {kn left s : Int} (hk : 0 ≤ kn) (hs : 1 ≤ s) (hl : 0 ≤ left) {n : Nat} (h : n ∈ (List.range ((min kn (left / s)).toNat + 1)).reverse) : (n : Int) ≤ kn ∧ (n : Int) * s ≤ left := by
  rw [List.mem_reverse, List.mem_range] at h
  have h0 : 0 ≤ left / s := Int.ediv_nonneg hl (by omega)
  have h1 : (n : Int) ≤ left / s := by omega
  refine ⟨by omega, Int.le_trans (Int.mul_le_mul_of_nonneg_right h1 (by omega)) (Int.ediv_mul_le _ (by omega))⟩

/-- Too narrow even with all knives. -/
theorem prune (T K : Int) (s : Int) (hs : 0 ≤ s) (ss : List Int) : ∀ (c : List Int) (kn left : Int), (∀ x ∈ ss, 1 ≤ x ∧ x ≤ s) → 0 ≤ kn → 0 ≤ left → left - kn * s > T → full T K ss c kn left = [] := by
  induction ss with
  | nil =>
    intro c kn left _ hk _ h
    have := Int.mul_nonneg hk hs
    rw [full, if_neg (by omega)]
  | cons x ss ih =>
    intro c kn left hx hk hl h
    rw [full, List.flatMap_eq_nil_iff]
    intro n hn
    have hx1 := hx x (by simp)
    have hr := range_mem hk hx1.1 hl hn
    refine ih _ _ _ (fun y hy => hx y (by simp [hy])) (by omega) (by omega) ?_
    have h1 : (n : Int) * x ≤ n * s := Int.mul_le_mul_of_nonneg_left hx1.2 (by omega)
    have h2 : (kn - n) * s = kn * s - n * s := Int.sub_mul ..
    omega
theorem desc_tail {s : Int} {ss : List Int} (h : Desc (s :: ss)) : Desc ss := fun i hi => h (i + 1) (by simpa using hi)
theorem desc_le {ss : List Int} : ∀ {s : Int}, Desc (s :: ss) → ∀ x ∈ ss, x ≤ s := by
  induction ss with
  | nil => intro s _ x hx; cases hx
  | cons y ss ih =>
    intro s h x hx
    have h1 := h 0 (by simp)
    simp at h1
    rcases List.mem_cons.1 hx with rfl | hx
    · omega
    · have := ih (desc_tail h) x hx
      omega
theorem run_eq (T K : Int) (most : Nat) (ss : List Int) : ∀ (c : List Int) (kn left : Int) (out : List (List Int)), Desc ss → (∀ x ∈ ss, 1 ≤ x) → 0 ≤ kn → 0 ≤ left → out.length ≤ most →
    pattern_list.run T K most ss c kn left out = (out ++ full T K ss c kn left).take most := by
  induction ss with
  | nil =>
    intro c kn left out _ _ _ _ ho
    rw [pattern_list.run, full]
    by_cases h : most ≤ out.length
    · rw [if_pos h, List.take_append_of_le_length h, List.take_of_length_le ho]
    · rw [if_neg h]
      by_cases h2 : left ≤ T ∧ kn < K
      · rw [if_pos h2, if_pos h2, List.take_of_length_le (by simp; omega)]
      · rw [if_neg h2, if_neg h2, List.append_nil, List.take_of_length_le ho]
  | cons s ss ih =>
    intro c kn left out hd h1 hk hl ho
    have hs := h1 s (by simp)
    rw [pattern_list.run]
    by_cases h : most ≤ out.length
    · rw [if_pos h, List.take_append_of_le_length h, List.take_of_length_le ho]
    · rw [if_neg h]
      by_cases h2 : left - kn * s > T
      · rw [if_pos h2, prune T K s (by omega) (s :: ss) c kn left (fun x hx => by
          rcases List.mem_cons.1 hx with rfl | hx
          · omega
          · exact ⟨h1 x (by simp [hx]), desc_le hd x hx⟩) hk hl h2, List.append_nil, List.take_of_length_le ho]
      · rw [if_neg h2, full]
        refine fold_take most _ _ _ out ho (fun n hn o hol => ?_)
        have hr := range_mem hk hs hl hn
        exact ih _ _ _ _ (desc_tail hd) (fun x hx => h1 x (by simp [hx])) (by omega) (by omega) hol

/-! ### The reference's -/
theorem fit_leaf (W E T K : Int) (l c : List Int) (dk : Deck W E T K l) (hl : c.length = l.length) (hn : ∀ x ∈ c, 0 ≤ x) (hk : 0 ≤ K - tot c) (hq : 0 ≤ W - 2 * E - wid c l) :
    fitErr W E T K l c = 0 ↔ W - 2 * E - wid c l ≤ T ∧ K - tot c < K := by
  have h0 := tot_nonneg c hn
  unfold fitErr
  rw [if_pos hl, if_neg (fun ⟨x, hx, h⟩ => by have := hn x hx; omega)]
  unfold tail4
  by_cases a1 : tot c = 0
  · rw [if_pos a1]; omega
  · rw [if_neg a1, if_neg (by omega), if_neg (by omega)]
    by_cases a4 : T < W - 2 * E - wid c l
    · rw [if_pos a4]; omega
    · rw [if_neg a4]; omega
theorem mn_min (a b : Int) : mn a b = min a b := by unfold mn; split <;> omega

def lim : Nat := 1025
theorem all_ev (W E T K : Int) (l : List Int) (dk : Deck W E T K l) (ss : List Int) : ∀ (c : List Int) (out : List (List Int)), l.drop c.length = ss → c.length ≤ l.length → (∀ x ∈ c, 0 ≤ x) → 0 ≤ K - tot c → 0 ≤ W - 2 * E - wid c (l.take c.length) → out.length ≤ 1025 →
    Ev (fun k => papermillref38_all.f k W E T K l c (K - tot c) (W - 2 * E - wid c (l.take c.length)) out 1024) ((out ++ full T K ss c (K - tot c) (W - 2 * E - wid c (l.take c.length))).take 1025) := by
  have h8 := dk.le
  have g := dk.good
  have gw := g.w1
  have gk := g.k1
  have ge := g.e0
  have gw0 := g.w0
  have ge1 := g.e1
  induction ss with
  | nil =>
    intro c out hd hc hn hk hq ho
    have hlen : c.length = l.length := by
      have := congrArg List.length hd
      rw [List.length_drop, List.length_nil] at this
      omega
    have htk : l.take c.length = l := List.take_of_length_le (by omega)
    rw [htk] at hq ⊢
    have hleaf := fit_leaf W E T K l c dk hlen hn hk hq
    rw [full]
    by_cases hbig : 1024 < out.length
    · rw [List.take_append_of_le_length (by omega), List.take_of_length_le (by omega)]
      exact Ev.step (fun k => by rw [papermillref38_all.f, if_pos (by omega)]) (Ev.now _)
    · refine Ev.step (f := fun k => (papermillref38_fits.f k W E T K l c).bind fun t => if t = 0 then ((some (([] : List (List Int)) : List (List Int))).bind fun y246 => (if y246.length + out.length < 5864062014805 then ((some (y246 ++ out : List (List Int))).bind fun y249 => ((some (([c] : List (List Int)) : List (List Int))).bind fun y252 => (if y249.length + y252.length < 5864062014805 then (some (y249 ++ y252)) else (none)))) else (none))) else (some out)) (fun k => by rw [papermillref38_all.f, if_neg (by omega), if_pos (by omega)]) ?_
      refine into (fits W E T K l c dk) (f := fun _ => some ((out ++ (if W - 2 * E - wid c l ≤ T ∧ K - tot c < K then [c] else [])).take 1025)) (fun k hk2 => ?_) (Ev.now _)
      rw [hk2, Option.bind_some]
      by_cases hf : fitErr W E T K l c = 0
      · rw [if_pos hf, if_pos (hleaf.1 hf)]
        simp only [Option.bind_some, List.nil_append, List.length_nil, Nat.zero_add, List.length_singleton]
        rw [if_pos (by omega), if_pos (by omega), List.take_of_length_le (by rw [List.length_append, List.length_singleton]; omega)]
      · rw [if_neg hf, if_neg (fun h => hf (hleaf.2 h)), List.append_nil, List.take_of_length_le (by omega)]
  | cons s ss ih =>
    intro c out hd hc hn hk hq ho
    have hlt : c.length < l.length := by
      have := congrArg List.length hd
      rw [List.length_drop, List.length_cons] at this
      omega
    have hsl : l[c.length] = s := by
      have := List.drop_eq_getElem_cons hlt
      rw [hd] at this
      exact (List.cons.inj this).1.symm
    have hrest : l.drop (c.length + 1) = ss := by
      have := List.drop_eq_getElem_cons hlt
      rw [hd] at this
      exact (List.cons.inj this).2.symm
    have hs := dk.rng s (by rw [← hsl]; exact List.getElem_mem hlt)
    have hrd : rd l (c.length : Int) = s := by rw [rd_at l _ hlt, hsl]
    have htot := tot_nonneg c hn
    have hwid : 0 ≤ wid c (l.take c.length) := by
      have key : ∀ (a b : List Int), (∀ x ∈ a, 0 ≤ x) → (∀ x ∈ b, 0 ≤ x) → 0 ≤ wid a b := by
        intro a
        induction a with
        | nil => intro b _ _; simp [wid]
        | cons x a iha =>
          intro b ha hb
          cases b with
          | nil => simp [wid]
          | cons y b =>
            have h1 := iha b (fun z hz => ha z (by simp [hz])) (fun z hz => hb z (by simp [hz]))
            have h2 := Int.mul_nonneg (ha x (by simp)) (hb y (by simp))
            simp only [wid]
            omega
      exact key _ _ hn (fun x hx => by have := dk.rng x (List.mem_of_mem_take hx); omega)
    obtain ⟨kn, ekn⟩ : ∃ kn, kn = K - tot c := ⟨_, rfl⟩
    obtain ⟨left, eleft⟩ : ∃ left, left = W - 2 * E - wid c (l.take c.length) := ⟨_, rfl⟩
    have hstep : ∀ n : Nat, tot (c ++ [(n : Int)]) = tot c + n ∧ wid (c ++ [(n : Int)]) (l.take (c ++ [(n : Int)]).length) = wid c (l.take c.length) + n * s := fun n => by
      constructor
      · rw [tot_append]; simp [tot]
      · rw [List.length_append, List.length_singleton, List.take_succ_eq_append_getElem hlt, wid_append _ _ _ _ (by rw [List.length_take]; omega), hsl]
        simp [wid]
    have hloop : ∀ (j : Nat) (out : List (List Int)), (j : Int) ≤ kn + 1 → ((j : Int) - 1) * s ≤ left → out.length ≤ 1025 →
        Ev (fun k => papermillref38_all.l0 k c kn left out 1024 s ((j : Int) - 1) W E T K l) ((out ++ (List.range j).reverse.flatMap fun (n : Nat) => full T K ss (c ++ [(n : Int)]) (kn - n) (left - n * s)).take 1025) := by
      intro j
      induction j with
      | zero =>
        intro out _ _ ho
        simp only [List.range_zero, List.reverse_nil, List.flatMap_nil, List.append_nil]
        rw [List.take_of_length_le ho]
        exact Ev.step (fun k => by rw [papermillref38_all.l0, if_neg (by omega)]) (Ev.now _)
      | succ j ihj =>
        intro out hj1 hj2 ho
        have ej : ((j + 1 : Nat) : Int) - 1 = (j : Int) := by omega
        rw [ej] at hj2 ⊢
        have hjs := Int.mul_nonneg (show 0 ≤ (j : Int) by omega) (show 0 ≤ s by omega)
        have hst := hstep j
        have h1 := ih (c ++ [(j : Int)]) out (by rw [List.length_append, List.length_singleton]; exact hrest) (by rw [List.length_append, List.length_singleton]; omega) (fun x hx => by
          rcases List.mem_append.1 hx with hx | hx
          · exact hn x hx
          · have : x = (j : Int) := by simpa using hx
            omega) (by rw [hst.1]; omega) (by rw [hst.2]; omega) ho
        rw [hst.1, hst.2, show K - (tot c + j) = kn - j by omega, show W - 2 * E - (wid c (l.take c.length) + j * s) = left - j * s by omega] at h1
        have h2 := ihj ((out ++ full T K ss (c ++ [(j : Int)]) (kn - j) (left - j * s)).take 1025) (by omega) (by have := Int.sub_mul (j : Int) 1 s; omega) (by rw [List.length_take]; omega)
        have e2 : ((out ++ full T K ss (c ++ [(j : Int)]) (kn - j) (left - j * s)).take 1025 ++ (List.range j).reverse.flatMap fun (n : Nat) => full T K ss (c ++ [(n : Int)]) (kn - n) (left - n * s)).take 1025 = (out ++ (List.range (j + 1)).reverse.flatMap fun (n : Nat) => full T K ss (c ++ [(n : Int)]) (kn - n) (left - n * s)).take 1025 := by
          rw [List.range_succ, List.reverse_append, List.reverse_singleton, List.singleton_append, List.flatMap_cons, ← List.append_assoc]
          rcases Nat.le_total (out ++ full T K ss (c ++ [(j : Int)]) (kn - j) (left - j * s)).length 1025 with h3 | h3
          · rw [List.take_of_length_le h3]
          · rw [List.take_append_of_le_length (by rw [List.length_take]; omega), List.take_append_of_le_length h3, List.take_take, Nat.min_self]
        rw [e2] at h2
        refine Ev.step (f := fun k => (papermillref38_all.f k W E T K l (c ++ [(j : Int)]) (kn - j) (left - j * s) out 1024).bind fun t => papermillref38_all.l0 k c kn left t 1024 s ((j : Int) - 1) W E T K l) (fun k => ?_) (into h1 (fun k hk3 => by rw [hk3, Option.bind_some]) h2)
        rw [papermillref38_all.l0, if_pos (by omega)]
        simp only [Option.bind_some, List.nil_append, List.length_nil, Nat.zero_add, List.length_singleton]
        rw [if_pos (by omega), if_pos (by omega), w64 (x := kn - j) (by omega) (by omega), w64 (x := (j : Int) * s) (by omega) (by omega), w64 (x := left - j * s) (by omega) (by omega), w64 (x := (j : Int) - 1) (by omega) (by omega)]
    rw [← ekn, ← eleft]
    rw [← ekn] at hk
    rw [← eleft] at hq
    by_cases hbig : 1024 < out.length
    · rw [List.take_append_of_le_length (by omega), List.take_of_length_le (by omega)]
      exact Ev.step (fun k => by rw [papermillref38_all.f, if_pos (by omega)]) (Ev.now _)
    · have hdv : 0 ≤ left / s := Int.ediv_nonneg hq (by omega)
      have hdm : left / s * s ≤ left := Int.ediv_mul_le _ (by omega)
      have hdl : left / s ≤ left := Int.ediv_le_self s hq
      have := hloop ((min kn (left / s)).toNat + 1) out (by omega) (by
        have h4 : (((min kn (left / s)).toNat + 1 : Nat) : Int) - 1 = min kn (left / s) := by omega
        rw [h4]
        exact Int.le_trans (Int.mul_le_mul_of_nonneg_right (by omega) (by omega)) hdm) ho
      rw [show (((min kn (left / s)).toNat + 1 : Nat) : Int) - 1 = min kn (left / s) by omega] at this
      rw [full]
      refine Ev.step (fun k => ?_) this
      rw [papermillref38_all.f, if_neg (by omega), if_neg (by omega), if_pos (by omega), if_pos (by omega), hrd, if_neg (by omega), Int.tdiv_eq_ediv_of_nonneg hq, w64 (x := left / s) (by omega) (by omega), mn_min]

/-- All patterns of a deckle that fit. -/
def pats (W E T K : Int) (l : List Int) : List (List Int) := full T K l [] K (W - 2 * E)
theorem usable_nonneg {W E T K : Int} (g : Good W E T K) : 0 ≤ W - 2 * E := by
  have := g.w0; have := g.e1
  omega
theorem list_f (W E T K : Int) (l : List Int) (dk : Deck W E T K l) (m : Nat) (hm : m ≤ 4096) : pattern_list.f W E T K l (m : Int) = some ((pats W E T K l).take m) := by
  unfold pattern_list.f
  rw [if_pos (deck_pre dk m (by omega) (by omega)), Int.toNat_natCast, run_eq T K m l [] K (W - 2 * E) [] dk.desc (fun x hx => (dk.rng x hx).1) (by have := dk.good.k0; omega) (usable_nonneg dk.good) (by simp), List.nil_append]
  rfl
theorem all_f (W E T K : Int) (l : List Int) (dk : Deck W E T K l) : Ev (fun k => papermillref38_all.f k W E T K l [] K (W - 2 * E) [] 1024) ((pats W E T K l).take 1025) := by
  have := all_ev W E T K l dk l [] [] (by simp) (by simp) (by simp) (by simp [tot]; have := dk.good.k0; omega) (by simp [wid]; have := usable_nonneg dk.good; omega) (by simp)
  simpa [tot, wid, pats] using this

noncomputable def checkErr (W E T K : Int) (l : List Int) : Int := if err W E T K l = 0 then (if 1024 < (pats W E T K l).length then 8 else 0) else err W E T K l
theorem check (W E T K : Int) (l : List Int) : Ev (fun k => pattern_Check.f k W E T K l) (checkErr W E T K l) := by
  unfold checkErr
  by_cases h : err W E T K l = 0
  · rw [if_pos h]
    have dk := deck h
    refine into (ranges W E T K l) (f := fun _ => some (if 1024 < (pats W E T K l).length then 8 else 0)) (fun k hk => ?_) (Ev.now _)
    have e := list_f W E T K l dk 1025 (by omega)
    rw [pattern_Check.f, hk, Option.bind_some, if_pos h, show (1025 : Int) = ((1025 : Nat) : Int) from rfl, e, Option.bind_some, List.length_take]
    by_cases h2 : 1024 < (pats W E T K l).length
    · rw [if_pos h2, if_pos (by omega)]
    · rw [if_neg h2, if_neg (by omega)]
  · rw [if_neg h]
    exact into (ranges W E T K l) (fun k hk => by rw [pattern_Check.f, hk, Option.bind_some, if_neg h]) (Ev.now _)
theorem checkR (W E T K : Int) (l : List Int) : Ev (fun k => papermillref38_Check.f k W E T K l) (checkErr W E T K l) := by
  unfold checkErr
  by_cases h : err W E T K l = 0
  · rw [if_pos h]
    have dk := deck h
    refine into (right W E T K l) (f := fun k => (papermillref38_all.f k W E T K l [] K (W - 2 * E) [] 1024).bind fun t => if (t.length : Int) > 1024 then some 8 else some 0) (fun k hk => ?_) ?_
    · rw [papermillref38_Check.f, hk, Option.bind_some, if_pos h, usableR W E T K l dk.good, Option.bind_some]
    · refine into (all_f W E T K l dk) (f := fun _ => some (if 1024 < (pats W E T K l).length then 8 else 0)) (fun k hk => ?_) (Ev.now _)
      rw [hk, Option.bind_some, List.length_take]
      by_cases h2 : 1024 < (pats W E T K l).length
      · rw [if_pos h2, if_pos (by omega)]
      · rw [if_neg h2, if_neg (by omega)]
  · rw [if_neg h]
    exact into (right W E T K l) (fun k hk => by rw [papermillref38_Check.f, hk, Option.bind_some, if_neg h]) (Ev.now _)
/-- A deckle that Check lets pass. -/
theorem deck_of_check {W E T K : Int} {l : List Int} (h : checkErr W E T K l = 0) : Deck W E T K l ∧ (pats W E T K l).length ≤ 1024 := by
  unfold checkErr at h
  split at h
  · rename_i h1
    split at h
    · omega
    · exact ⟨deck h1, by omega⟩
  · omega

end Pat
end Go.Proofs.Ytebhilnnbjkbeaa.P38
