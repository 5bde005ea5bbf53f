/- Patterns: what the reference's functions answer. -/
import Derived.Test.YtocnlpnlngnbnaaPatP
import Derived.Test.YtocnlpnlngnbnaaP39x40
import Derived.Test.YtocnlpnlngnbnaaP39x41
import Derived.Test.YtocnlpnlngnbnaaP39x42
import Derived.Test.YtocnlpnlngnbnaaP39x43
import Derived.Test.YtocnlpnlngnbnaaP39x44
namespace Go.Proofs.Ytocnlpnlngnbnaa.P39
open Go.RowKit Go.Proofs.YtocnlpnlngnbnaaW.PrintWords Go.Proofs.YtocnlpnlngnbnaaW.PrintLast Go.Proofs.YtocnlpnlngnbnaaW.PrintMore
set_option linter.unusedVariables false
set_option linter.unusedSimpArgs false
namespace Pat
theorem usableR (W E T K : Int) (l : List Int) (g : Good W E T K) : papermillref38_usable.f W E T K l = some (W - 2 * E) := usable W E T K l g

open Classical in
theorem right_l1 (W E T K : Int) (l : List Int) (h8 : l.length ≤ 8) (d : Nat) : ∀ i : Nat, i + d = l.length → 1 ≤ i →
    Ev (fun k => papermillref38_right.l1 k (i : Int) W E T K l) (if ∀ (j : Nat) (h : j + 1 < l.length), i ≤ j + 1 → l[j + 1] < l[j] then 0 else 9) := by
  induction d with
  | zero =>
    intro i hi h1
    rw [if_pos (fun j h hj => by omega)]
    refine Ev.step (fun k => ?_) (Ev.now 0)
    simp only [papermillref38_right.l1]
    rw [if_neg (by omega)]
  | succ d ih =>
    intro i hi h1
    obtain ⟨i, rfl⟩ : ∃ m, i = m + 1 := ⟨i - 1, by omega⟩
    have e1 : wrap64 (((i + 1 : Nat) : Int) - 1) = (i : Int) := by unfold wrap64; omega
    have e2 : wrap64 (((i + 1 : Nat) : Int) + 1) = ((i + 1 + 1 : Nat) : Int) := by unfold wrap64; omega
    by_cases hlt : l[i + 1]'(by omega) < l[i]'(by omega)
    · have := ih (i + 1 + 1) (by omega) (by omega)
      have hiff : (∀ (j : Nat) (h : j + 1 < l.length), i + 1 ≤ j + 1 → l[j + 1] < l[j]) ↔ (∀ (j : Nat) (h : j + 1 < l.length), i + 1 + 1 ≤ j + 1 → l[j + 1] < l[j]) :=
        ⟨fun h j hj hij => h j hj (by omega), fun h j hj hij => by
          rcases Nat.eq_or_lt_of_le hij with e | e
          · obtain rfl : j = i := by omega
            exact hlt
          · exact h j hj (by omega)⟩
      simp only [hiff]
      refine Ev.step (fun k => ?_) this
      simp only [papermillref38_right.l1]
      rw [if_pos (by omega), if_pos (by omega), e1, if_pos (by omega), if_pos (by omega), rd_at l (i + 1) (by omega), rd_at l i (by omega), if_neg (by omega), e2]
    · rw [if_neg (fun h => hlt (h i (by omega) (by omega)))]
      refine Ev.step (fun k => ?_) (Ev.now 9)
      simp only [papermillref38_right.l1]
      rw [if_pos (by omega), if_pos (by omega), e1, if_pos (by omega), if_pos (by omega), rd_at l (i + 1) (by omega), rd_at l i (by omega), if_pos (by omega)]

open Classical in
theorem right_l0 (W E T K : Int) (l : List Int) (g : Good W E T K) (h8 : l.length ≤ 8) (h0 : 0 < l.length) (d : Nat) : ∀ i : Nat, i + d = l.length →
    Ev (fun k => papermillref38_right.l0 k (i : Int) W E T K l) (if Bad (W - 2 * E) (l.drop i) then 20 else if Desc l then 0 else 9) := by
  induction d with
  | zero =>
    intro i hi
    rw [if_neg (by rw [List.drop_eq_nil_of_le (by omega)]; rintro ⟨s, hs, _⟩; cases hs)]
    have := right_l1 W E T K l h8 (l.length - 1) 1 (by omega) (by omega)
    simp only [desc_one] at this
    refine Ev.step (fun k => ?_) this
    simp only [papermillref38_right.l0]
    rw [if_neg (by omega)]
    rfl
  | succ d ih =>
    intro i hi
    have e2 : wrap64 ((i : Int) + 1) = ((i + 1 : Nat) : Int) := by unfold wrap64; omega
    rw [bad_step _ _ i (by omega)]
    by_cases h1 : l[i]'(by omega) < 1
    · rw [if_pos (.inl (.inl h1))]
      refine Ev.step (fun k => ?_) (Ev.now 20)
      simp only [papermillref38_right.l0]
      rw [if_pos (by omega), if_pos (by omega), rd_at l i (by omega), if_pos h1]
    · by_cases h2 : l[i]'(by omega) > W - 2 * E
      · rw [if_pos (.inl (.inr h2))]
        refine Ev.step (fun k => ?_) (Ev.now 20)
        simp only [papermillref38_right.l0]
        rw [if_pos (by omega), if_pos (by omega), rd_at l i (by omega), if_neg h1, usableR W E T K l g, Option.bind_some, if_pos h2]
      · have hiff : ((l[i]'(by omega) < 1 ∨ l[i]'(by omega) > W - 2 * E) ∨ Bad (W - 2 * E) (l.drop (i + 1))) ↔ Bad (W - 2 * E) (l.drop (i + 1)) := ⟨fun h => by
          rcases h with (h | h) | h
          · exact absurd h h1
          · exact absurd h h2
          · exact h, .inr⟩
        simp only [hiff]
        refine Ev.step (fun k => ?_) (ih (i + 1) (by omega))
        simp only [papermillref38_right.l0]
        rw [if_pos (by omega), if_pos (by omega), rd_at l i (by omega), if_neg h1, usableR W E T K l g, Option.bind_some, if_neg h2, e2]

theorem right_j0 (W E T K : Int) (l : List Int) (g : Good W E T K) : Ev (fun k => papermillref38_right.j0 k false W E T K l) (sizes (W - 2 * E) l) := by
  unfold sizes
  by_cases h0 : l.length = 0
  · rw [if_pos h0]
    refine Ev.step (fun k => ?_) (Ev.now 10)
    simp only [papermillref38_right.j0]
    rw [if_neg (by simp), if_pos (by omega)]
  · rw [if_neg h0]
    by_cases h8 : 8 < l.length
    · rw [if_pos h8]
      refine Ev.step (fun k => ?_) (Ev.now 8)
      simp only [papermillref38_right.j0]
      rw [if_neg (by simp), if_neg (by omega), if_pos (by omega)]
    · rw [if_neg h8]
      have := right_l0 W E T K l g (by omega) (by omega) l.length 0 (by omega)
      refine Ev.step (fun k => ?_) this
      simp only [papermillref38_right.j0]
      rw [if_neg (by simp), if_neg (by omega), if_neg (by omega)]
      rfl
theorem right_true (W E T K : Int) (l : List Int) : Ev (fun k => papermillref38_right.j0 k true W E T K l) 1 := Ev.step (fun k => by simp only [papermillref38_right.j0]; rw [if_pos trivial]) (Ev.now 1)
theorem right (W E T K : Int) (l : List Int) : Ev (fun k => papermillref38_right.f k W E T K l) (err W E T K l) := by
  unfold err papermillref38_right.f
  by_cases h1 : W < 1
  · rw [if_neg (fun g => by have := g.w0; omega)]
    simp only [if_pos h1]
    exact right_true W E T K l
  simp only [if_neg h1]
  by_cases h2 : W > 12000
  · rw [if_neg (fun g => by have := g.w1; omega)]
    simp only [if_pos h2]
    exact right_true W E T K l
  simp only [if_neg h2, half (show 1 ≤ W by omega) (show W ≤ 12000 by omega)]
  by_cases h3 : E < 0
  · rw [if_neg (fun g => by have := g.e0; omega)]
    simp only [if_pos h3]
    exact right_true W E T K l
  simp only [if_neg h3]
  by_cases h4 : E > (W - 1) / 2
  · rw [if_neg (fun g => by have := g.e1; omega)]
    simp only [if_pos h4]
    exact right_true W E T K l
  simp only [if_neg h4]
  by_cases h5 : T < 0
  · rw [if_neg (fun g => by have := g.t0; omega)]
    simp only [if_pos h5]
    exact right_true W E T K l
  simp only [if_neg h5]
  by_cases h6 : T > W
  · rw [if_neg (fun g => by have := g.t1; omega)]
    simp only [if_pos h6]
    exact right_true W E T K l
  simp only [if_neg h6]
  by_cases h7 : K < 1
  · rw [if_neg (fun g => by have := g.k0; omega)]
    simp only [if_pos h7]
    exact right_true W E T K l
  simp only [if_neg h7]
  by_cases h8 : K > 12
  · rw [if_neg (fun g => by have := g.k1; omega)]
    simp only [decide_eq_true h8]
    exact right_true W E T K l
  simp only [decide_eq_false h8]
  rw [if_pos ⟨by omega, by omega, by omega, by omega, by omega, by omega, by omega, by omega⟩]
  exact right_j0 W E T K l ⟨by omega, by omega, by omega, by omega, by omega, by omega, by omega, by omega⟩

theorem fits_l1 (W E T K : Int) (l c : List Int) (dk : Deck W E T K l) (hl : c.length = l.length) (hn : ∀ x ∈ c, 0 ≤ x) (d : Nat) : ∀ (i : Nat) (a b : Int), i + d = c.length → 0 ≤ a → a ≤ 12001 * i → 0 ≤ b → b ≤ 144012000 * i →
    Ev (fun k => papermillref38_fits.l1 k c a b (i : Int) W E T K l) (tail4 (W - 2 * E) T K (a + tot (cap (c.drop i))) (b + wid (cap (c.drop i)) (l.drop i))) := by
  have h8 := dk.le
  have g := dk.good
  have gw := g.w1
  have gk := g.k1
  have ge := g.e0
  have gw0 := g.w0
  have ge1 := g.e1
  induction d with
  | zero =>
    intro i a b hi ha0 ha1 hb0 hb1
    rw [List.drop_eq_nil_of_le (by omega), List.drop_eq_nil_of_le (by omega)]
    simp only [cap, List.map_nil, tot, wid, Int.add_zero]
    unfold tail4
    by_cases h1 : a = 0
    · rw [if_pos h1]
      exact Ev.step (fun k => by rw [papermillref38_fits.l1, if_neg (by omega), if_pos h1]) (Ev.now _)
    · rw [if_neg h1]
      by_cases h2 : K < a
      · rw [if_pos h2]
        exact Ev.step (fun k => by rw [papermillref38_fits.l1, if_neg (by omega), if_neg h1, if_pos (by omega)]) (Ev.now _)
      · rw [if_neg h2]
        by_cases h3 : W - 2 * E < b
        · rw [if_pos h3]
          exact Ev.step (fun k => by rw [papermillref38_fits.l1, if_neg (by omega), if_neg h1, if_neg (by omega), usableR W E T K l g, Option.bind_some, if_pos (by omega)]) (Ev.now _)
        · rw [if_neg h3]
          by_cases h4 : T < W - 2 * E - b
          · rw [if_pos h4]
            exact Ev.step (fun k => by rw [papermillref38_fits.l1, if_neg (by omega), if_neg h1, if_neg (by omega), usableR W E T K l g, Option.bind_some, if_neg (by omega), Option.bind_some, w64 (by omega) (by omega), if_pos (by omega)]) (Ev.now _)
          · rw [if_neg h4]
            exact Ev.step (fun k => by rw [papermillref38_fits.l1, if_neg (by omega), if_neg h1, if_neg (by omega), usableR W E T K l g, Option.bind_some, if_neg (by omega), Option.bind_some, w64 (by omega) (by omega), if_neg (by omega)]) (Ev.now _)
  | succ d ih =>
    intro i a b hi ha0 ha1 hb0 hb1
    have hci := hn _ (rd_mem c i (by omega))
    have hs := dk.rng _ (rd_mem l i (by omega))
    have hm0 : 0 ≤ mn (rd c (i : Int)) 12001 ∧ mn (rd c (i : Int)) 12001 ≤ 12001 := by unfold mn; split <;> omega
    have hm := mulb hm0.1 hm0.2 (show 0 ≤ rd l (i : Int) by omega) (show rd l (i : Int) ≤ 12000 by omega) (by omega)
    have := ih (i + 1) (a + mn (rd c (i : Int)) 12001) (b + mn (rd c (i : Int)) 12001 * rd l (i : Int)) (by omega) (by omega) (by omega) (by omega) (by omega)
    rw [drop_rd c i (by omega), drop_rd l i (by omega)]
    simp only [cap, List.map_cons, tot, wid] at this ⊢
    rw [← Int.add_assoc, ← Int.add_assoc]
    refine Ev.step (fun k => ?_) this
    rw [papermillref38_fits.l1, if_pos (by omega), if_pos (by omega), if_pos (by omega), w64 (x := a + mn (rd c (i : Int)) 12001) (by omega) (by omega), w64 (x := mn (rd c (i : Int)) 12001 * rd l (i : Int)) (by omega) (by omega), w64 (x := b + mn (rd c (i : Int)) 12001 * rd l (i : Int)) (by omega) (by omega), w64 (x := (i : Int) + 1) (by omega) (by omega)]
    rfl
open Classical in
theorem fits_l0 (W E T K : Int) (l c : List Int) (dk : Deck W E T K l) (hl : c.length = l.length) (d : Nat) : ∀ i : Nat, i + d = c.length → (∀ j, j < i → ∀ h : j < c.length, 0 ≤ c[j]) →
    Ev (fun k => papermillref38_fits.l0 k c (i : Int) W E T K l) (if ∃ x ∈ c, x < 0 then 1 else tail4 (W - 2 * E) T K (tot c) (wid c l)) := by
  have h8 := dk.le
  induction d with
  | zero =>
    intro i hi hn
    have hn2 : ∀ x ∈ c, 0 ≤ x := fun x hx => by
      obtain ⟨j, hj, rfl⟩ := List.getElem_of_mem hx
      exact hn j (by omega) hj
    rw [if_neg (fun ⟨x, hx, h⟩ => by have := hn2 x hx; omega)]
    have := fits_l1 W E T K l c dk hl hn2 c.length 0 0 0 (by omega) (by omega) (by omega) (by omega) (by omega)
    simp only [List.drop_zero, Int.zero_add] at this
    rw [tail_cap _ _ _ _ _ hn2 dk.good.k1] at this
    refine Ev.step (fun k => ?_) this
    rw [papermillref38_fits.l0, if_neg (by omega)]
    rfl
  | succ d ih =>
    intro i hi hn
    by_cases h1 : rd c (i : Int) < 0
    · rw [if_pos ⟨_, rd_mem c i (by omega), h1⟩]
      refine Ev.step (fun k => ?_) (Ev.now _)
      rw [papermillref38_fits.l0, if_pos (by omega), if_pos (by omega), if_pos h1]
    · refine Ev.step (fun k => ?_) (ih (i + 1) (by omega) (fun j hj hjl => by
        rcases Nat.lt_or_ge j i with h | h
        · exact hn j h hjl
        · obtain rfl : j = i := by omega
          rw [← rd_at c j hjl]
          omega))
      rw [papermillref38_fits.l0, if_pos (by omega), if_pos (by omega), if_neg h1, w64 (x := (i : Int) + 1) (by omega) (by omega)]
      rfl
theorem fits (W E T K : Int) (l c : List Int) (dk : Deck W E T K l) : Ev (fun k => papermillref38_fits.f k W E T K l c) (fitErr W E T K l c) := by
  unfold fitErr
  by_cases hl : c.length = l.length
  · rw [if_pos hl]
    exact Ev.congr (fun k => by rw [papermillref38_fits.f, if_pos (by omega)]; rfl) (fits_l0 W E T K l c dk hl c.length 0 (by omega) (fun j hj => absurd hj (Nat.not_lt_zero j)))
  · rw [if_neg hl]
    exact Ev.congr (fun k => by rw [papermillref38_fits.f, if_neg (by omega)]) (Ev.now _)


theorem all_ev (W E T K : Int) (l : List Int) (dk : Deck W E T K l) (ss : List Int) : ∀ (c : List Int) (out : List (List Int)), l.drop c.length = ss → c.length ≤ l.length → (∀ x ∈ c, 0 ≤ x) → 0 ≤ K - tot c → 0 ≤ W - 2 * E - wid c (l.take c.length) → out.length ≤ 1025 →
    Ev (fun k => papermillref38_all.f k W E T K l c (K - tot c) (W - 2 * E - wid c (l.take c.length)) out 1024) ((out ++ full T K ss c (K - tot c) (W - 2 * E - wid c (l.take c.length))).take 1025) := by
  have h8 := dk.le
  have g := dk.good
  have gw := g.w1
  have gk := g.k1
  have ge := g.e0
  have gw0 := g.w0
  have ge1 := g.e1
  induction ss with
  | nil =>
    intro c out hd hc hn hk hq ho
    have hlen : c.length = l.length := by
      have := congrArg List.length hd
      rw [List.length_drop, List.length_nil] at this
      omega
    have htk : l.take c.length = l := List.take_of_length_le (by omega)
    rw [htk] at hq ⊢
    have hleaf := fit_leaf W E T K l c dk hlen hn hk hq
    rw [full]
    by_cases hbig : 1024 < out.length
    · rw [List.take_append_of_le_length (by omega), List.take_of_length_le (by omega)]
      exact Ev.step (fun k => by rw [papermillref38_all.f, if_pos (by omega)]) (Ev.now _)
    · refine Ev.step (f := fun k => (papermillref38_fits.f k W E T K l c).bind fun t => if t = 0 then ((some (([] : List (List Int)) : List (List Int))).bind fun y246 => (if y246.length + out.length < 5864062014805 then ((some (y246 ++ out : List (List Int))).bind fun y249 => ((some (([c] : List (List Int)) : List (List Int))).bind fun y252 => (if y249.length + y252.length < 5864062014805 then (some (y249 ++ y252)) else (none)))) else (none))) else (some out)) (fun k => by rw [papermillref38_all.f, if_neg (by omega), if_pos (by omega)]) ?_
      refine into (fits W E T K l c dk) (f := fun _ => some ((out ++ (if W - 2 * E - wid c l ≤ T ∧ K - tot c < K then [c] else [])).take 1025)) (fun k hk2 => ?_) (Ev.now _)
      rw [hk2, Option.bind_some]
      by_cases hf : fitErr W E T K l c = 0
      · rw [if_pos hf, if_pos (hleaf.1 hf)]
        simp only [Option.bind_some, List.nil_append, List.length_nil, Nat.zero_add, List.length_singleton]
        rw [if_pos (by omega), if_pos (by omega), List.take_of_length_le (by rw [List.length_append, List.length_singleton]; omega)]
      · rw [if_neg hf, if_neg (fun h => hf (hleaf.2 h)), List.append_nil, List.take_of_length_le (by omega)]
  | cons s ss ih =>
    intro c out hd hc hn hk hq ho
    have hlt : c.length < l.length := by
      have := congrArg List.length hd
      rw [List.length_drop, List.length_cons] at this
      omega
    have hsl : l[c.length] = s := by
      have := List.drop_eq_getElem_cons hlt
      rw [hd] at this
      exact (List.cons.inj this).1.symm
    have hrest : l.drop (c.length + 1) = ss := by
      have := List.drop_eq_getElem_cons hlt
      rw [hd] at this
      exact (List.cons.inj this).2.symm
    have hs := dk.rng s (by rw [← hsl]; exact List.getElem_mem hlt)
    have hrd : rd l (c.length : Int) = s := by rw [rd_at l _ hlt, hsl]
    have htot := tot_nonneg c hn
    have hwid : 0 ≤ wid c (l.take c.length) := by
      have key : ∀ (a b : List Int), (∀ x ∈ a, 0 ≤ x) → (∀ x ∈ b, 0 ≤ x) → 0 ≤ wid a b := by
        intro a
        induction a with
        | nil => intro b _ _; simp [wid]
        | cons x a iha =>
          intro b ha hb
          cases b with
          | nil => simp [wid]
          | cons y b =>
            have h1 := iha b (fun z hz => ha z (by simp [hz])) (fun z hz => hb z (by simp [hz]))
            have h2 := Int.mul_nonneg (ha x (by simp)) (hb y (by simp))
            simp only [wid]
            omega
      exact key _ _ hn (fun x hx => by have := dk.rng x (List.mem_of_mem_take hx); omega)
    obtain ⟨kn, ekn⟩ : ∃ kn, kn = K - tot c := ⟨_, rfl⟩
    obtain ⟨left, eleft⟩ : ∃ left, left = W - 2 * E - wid c (l.take c.length) := ⟨_, rfl⟩
    have hstep : ∀ n : Nat, tot (c ++ [(n : Int)]) = tot c + n ∧ wid (c ++ [(n : Int)]) (l.take (c ++ [(n : Int)]).length) = wid c (l.take c.length) + n * s := fun n => by
      constructor
      · rw [tot_append]; simp [tot]
      · rw [List.length_append, List.length_singleton, List.take_succ_eq_append_getElem hlt, wid_append _ _ _ _ (by rw [List.length_take]; omega), hsl]
        simp [wid]
    have hloop : ∀ (j : Nat) (out : List (List Int)), (j : Int) ≤ kn + 1 → ((j : Int) - 1) * s ≤ left → out.length ≤ 1025 →
        Ev (fun k => papermillref38_all.l0 k c kn left out 1024 s ((j : Int) - 1) W E T K l) ((out ++ (List.range j).reverse.flatMap fun (n : Nat) => full T K ss (c ++ [(n : Int)]) (kn - n) (left - n * s)).take 1025) := by
      intro j
      induction j with
      | zero =>
        intro out _ _ ho
        simp only [List.range_zero, List.reverse_nil, List.flatMap_nil, List.append_nil]
        rw [List.take_of_length_le ho]
        exact Ev.step (fun k => by rw [papermillref38_all.l0, if_neg (by omega)]) (Ev.now _)
      | succ j ihj =>
        intro out hj1 hj2 ho
        have ej : ((j + 1 : Nat) : Int) - 1 = (j : Int) := by omega
        rw [ej] at hj2 ⊢
        have hjs := Int.mul_nonneg (show 0 ≤ (j : Int) by omega) (show 0 ≤ s by omega)
        have hst := hstep j
        have h1 := ih (c ++ [(j : Int)]) out (by rw [List.length_append, List.length_singleton]; exact hrest) (by rw [List.length_append, List.length_singleton]; omega) (fun x hx => by
          rcases List.mem_append.1 hx with hx | hx
          · exact hn x hx
          · have : x = (j : Int) := by simpa using hx
            omega) (by rw [hst.1]; omega) (by rw [hst.2]; omega) ho
        rw [hst.1, hst.2, show K - (tot c + j) = kn - j by omega, show W - 2 * E - (wid c (l.take c.length) + j * s) = left - j * s by omega] at h1
        have h2 := ihj ((out ++ full T K ss (c ++ [(j : Int)]) (kn - j) (left - j * s)).take 1025) (by omega) (by have := Int.sub_mul (j : Int) 1 s; omega) (by rw [List.length_take]; omega)
        have e2 : ((out ++ full T K ss (c ++ [(j : Int)]) (kn - j) (left - j * s)).take 1025 ++ (List.range j).reverse.flatMap fun (n : Nat) => full T K ss (c ++ [(n : Int)]) (kn - n) (left - n * s)).take 1025 = (out ++ (List.range (j + 1)).reverse.flatMap fun (n : Nat) => full T K ss (c ++ [(n : Int)]) (kn - n) (left - n * s)).take 1025 := by
          rw [List.range_succ, List.reverse_append, List.reverse_singleton, List.singleton_append, List.flatMap_cons, ← List.append_assoc]
          rcases Nat.le_total (out ++ full T K ss (c ++ [(j : Int)]) (kn - j) (left - j * s)).length 1025 with h3 | h3
          · rw [List.take_of_length_le h3]
          · rw [List.take_append_of_le_length (by rw [List.length_take]; omega), List.take_append_of_le_length h3, List.take_take, Nat.min_self]
        rw [e2] at h2
        refine Ev.step (f := fun k => (papermillref38_all.f k W E T K l (c ++ [(j : Int)]) (kn - j) (left - j * s) out 1024).bind fun t => papermillref38_all.l0 k c kn left t 1024 s ((j : Int) - 1) W E T K l) (fun k => ?_) (into h1 (fun k hk3 => by rw [hk3, Option.bind_some]) h2)
        rw [papermillref38_all.l0, if_pos (by omega)]
        simp only [Option.bind_some, List.nil_append, List.length_nil, Nat.zero_add, List.length_singleton]
        rw [if_pos (by omega), if_pos (by omega), w64 (x := kn - j) (by omega) (by omega), w64 (x := (j : Int) * s) (by omega) (by omega), w64 (x := left - j * s) (by omega) (by omega), w64 (x := (j : Int) - 1) (by omega) (by omega)]
    rw [← ekn, ← eleft]
    rw [← ekn] at hk
    rw [← eleft] at hq
    by_cases hbig : 1024 < out.length
    · rw [List.take_append_of_le_length (by omega), List.take_of_length_le (by omega)]
      exact Ev.step (fun k => by rw [papermillref38_all.f, if_pos (by omega)]) (Ev.now _)
    · have hdv : 0 ≤ left / s := Int.ediv_nonneg hq (by omega)
      have hdm : left / s * s ≤ left := Int.ediv_mul_le _ (by omega)
      have hdl : left / s ≤ left := Int.ediv_le_self s hq
      have := hloop ((min kn (left / s)).toNat + 1) out (by omega) (by
        have h4 : (((min kn (left / s)).toNat + 1 : Nat) : Int) - 1 = min kn (left / s) := by omega
        rw [h4]
        exact Int.le_trans (Int.mul_le_mul_of_nonneg_right (by omega) (by omega)) hdm) ho
      rw [show (((min kn (left / s)).toNat + 1 : Nat) : Int) - 1 = min kn (left / s) by omega] at this
      rw [full]
      refine Ev.step (fun k => ?_) this
      rw [papermillref38_all.f, if_neg (by omega), if_neg (by omega), if_pos (by omega), if_pos (by omega), hrd, if_neg (by omega), Int.tdiv_eq_ediv_of_nonneg hq, w64 (x := left / s) (by omega) (by omega), mn_min]

theorem all_f (W E T K : Int) (l : List Int) (dk : Deck W E T K l) : Ev (fun k => papermillref38_all.f k W E T K l [] K (W - 2 * E) [] 1024) ((pats W E T K l).take 1025) := by
  have := all_ev W E T K l dk l [] [] (by simp) (by simp) (by simp) (by simp [tot]; have := dk.good.k0; omega) (by simp [wid]; have := usable_nonneg dk.good; omega) (by simp)
  simpa [tot, wid, pats] using this

theorem checkR (W E T K : Int) (l : List Int) : Ev (fun k => papermillref38_Check.f k W E T K l) (checkErr W E T K l) := by
  unfold checkErr
  by_cases h : err W E T K l = 0
  · rw [if_pos h]
    have dk := deck h
    refine into (right W E T K l) (f := fun k => (papermillref38_all.f k W E T K l [] K (W - 2 * E) [] 1024).bind fun t => if (t.length : Int) > 1024 then some 8 else some 0) (fun k hk => ?_) ?_
    · rw [papermillref38_Check.f, hk, Option.bind_some, if_pos h, usableR W E T K l dk.good, Option.bind_some]
    · refine into (all_f W E T K l dk) (f := fun _ => some (if 1024 < (pats W E T K l).length then 8 else 0)) (fun k hk => ?_) (Ev.now _)
      rw [hk, Option.bind_some, List.length_take]
      by_cases h2 : 1024 < (pats W E T K l).length
      · rw [if_pos h2, if_pos (by omega)]
      · rw [if_neg h2, if_neg (by omega)]
  · rw [if_neg h]
    exact into (right W E T K l) (fun k hk => by rw [papermillref38_Check.f, hk, Option.bind_some, if_neg h]) (Ev.now _)
theorem FitsR (W E T K : Int) (l c : List Int) : Ev (fun k => papermillref38_Fits.f k W E T K l c) (FitsE W E T K l c) := by
  unfold FitsE
  by_cases h : checkErr W E T K l = 0
  · rw [if_pos h]
    have dk := (deck_of_check h).1
    refine into (checkR W E T K l) (f := fun k => (papermillref38_fits.f k W E T K l c).bind fun b => some b) (fun k hk => by rw [papermillref38_Fits.f, hk, Option.bind_some, if_pos h]) ?_
    exact into (fits W E T K l c dk) (fun k hk => by rw [hk, Option.bind_some]) (Ev.now _)
  · rw [if_neg h]
    exact into (checkR W E T K l) (fun k hk => by rw [papermillref38_Fits.f, hk, Option.bind_some, if_neg h]) (Ev.now _)
end Pat
end Go.Proofs.Ytocnlpnlngnbnaa.P39
