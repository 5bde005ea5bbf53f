/- SlitOnce: for every two jobs and positions, two windings of one roll have no point in common (no condition). -/
import Derived.Test.YtocnlpnlngnbnaaSlit5
import Derived.Test.YtocnlpnlngnbnaaStSlitOnce
namespace Go.Proofs.Ytocnlpnlngnbnaa.Pure
open Go.RowKit Go.Proofs.YtocnlpnlngnbnaaW.PrintWords Go.Proofs.YtocnlpnlngnbnaaW.PrintLast Go.Proofs.YtocnlpnlngnbnaaW.PrintMore Go.Proofs.Ytocnlpnlngnbnaa.RowLib Go.Proofs.Ytocnlpnlngnbnaa.P39 Go.Proofs.Ytocnlpnlngnbnaa.P39.Slit
open Go.Proofs.Ytocnlpnlngnbnaa.P39.Pat (into w64)
set_option linter.unusedVariables false
theorem mx_one {n : Int} (h : 1 ≤ n) : mx 1 n = n := by unfold mx; split <;> omega
section
variable (w L : Int) (l : List S57) (u n : Int) (v M : Int) (m : List S57) (u' n' : Int) (p q : Int)
theorem once_l1 (j : Job w L l u n) (j' : Job w L m u' n') (hu : u + n ≤ u') (i : Nat) (y : Int) (hy : L - u - n ≤ y) (h : Ev (fun k => papermilllaw39_SlitOnce.l0 k (kids L u n l) (kids L u' n' m) ((i + 1 : Nat) : Int) w L l u n w L m u' n' p q) true) (hi : i ≤ 100) (d : Nat) : ∀ e : Nat, e + d = m.length → Ev (fun k => papermilllaw39_SlitOnce.l1 k (kids L u n l) (kids L u' n' m) (i : Int) y 0 (e : Int) w L l u n w L m u' n' p q) true := by
  have hm := j'.ok.len
  have hkl := kids_len L u' n' m
  induction d with
  | zero =>
    intro e he
    refine Ev.step (fun k => ?_) h
    rw [papermilllaw39_SlitOnce.l1, if_neg (by omega), w64 (x := (i : Int) + 1) (by omega) (by omega)]
    rfl
  | succ d ih =>
    intro e he
    have hel : e < m.length := by omega
    have hn0 := j'.n0
    have hl1 := j'.l1
    have hu0 := j'.u0
    have hn1 := j'.n1
    have hg := j'.ok.good _ (List.getElem_mem hel)
    obtain ⟨t, ht, ht0, ht1⟩ := pick_in q n' hn0 (by omega)
    have hpl := kid_place j' m[e] (List.getElem_mem hel) 0 t
    rw [if_neg (by omega), if_neg (by omega)] at hpl
    refine Ev.step (fun k => by rw [papermilllaw39_SlitOnce.l1, if_pos (by omega), if_pos (by omega), mx_one hn0, ht, Option.bind_some, kids_at L u' n' m e hel]) ?_
    refine into (placeP m[e].f0 m[e].f1 false [run L u' n'] 0 t) (fun k hk => by rw [hk, Option.bind_some]) ?_
    rw [hpl]
    refine Ev.congr (g := fun k => _) (fun k => by rw [if_pos rfl, if_pos rfl, if_neg (by show ¬ y ≤ L - 1 - u' - t; omega), w64 (x := (e : Int) + 1) (by omega) (by omega)]) ?_
    exact ih (e + 1) (by omega)
theorem once_l0 (j : Job w L l u n) (j' : Job w L m u' n') (hu : u + n ≤ u') (d : Nat) : ∀ i : Nat, i + d = l.length → Ev (fun k => papermilllaw39_SlitOnce.l0 k (kids L u n l) (kids L u' n' m) (i : Int) w L l u n w L m u' n' p q) true := by
  have hm := j.ok.len
  have hkl := kids_len L u n l
  induction d with
  | zero =>
    intro i hi
    refine Ev.step (fun k => by rw [papermilllaw39_SlitOnce.l0, if_neg (by omega)]) ?_
    exact into awake (fun k hk => by rw [hk, Option.bind_some]) (Ev.now true)
  | succ d ih =>
    intro i hi
    have hil : i < l.length := by omega
    have hn0 := j.n0
    have hl1 := j.l1
    have hu0 := j.u0
    have hn1 := j.n1
    have hg := j.ok.good _ (List.getElem_mem hil)
    obtain ⟨t, ht, ht0, ht1⟩ := pick_in p n hn0 (by omega)
    have hpl := kid_place j l[i] (List.getElem_mem hil) 0 t
    rw [if_neg (by omega), if_neg (by omega)] at hpl
    refine Ev.step (fun k => by rw [papermilllaw39_SlitOnce.l0, if_pos (by omega), if_pos (by omega), mx_one hn0, ht, Option.bind_some, kids_at L u n l i hil]) ?_
    refine into (placeP l[i].f0 l[i].f1 false [run L u n] 0 t) (fun k hk => by rw [hk, Option.bind_some]) ?_
    rw [hpl]
    exact once_l1 w L l u n m u' n' p q j j' hu i (L - 1 - u - t) (by omega) (ih (i + 1) (by omega)) (by omega) m.length 0 (by omega)
end
theorem SlitOnce : papermilllaw39_SlitOnce.Pure := by
  intro w L l u n w' L' m u' n' p q _ _ _ iu in_ _ _ _ _ _ _ _
  apply Ev.rounds
  have hj : Ev (fun k => papermilllaw39_SlitOnce.j0 k true w L l u n w' L' m u' n' p q) true := Ev.step (fun k => by rw [papermilllaw39_SlitOnce.j0, if_pos rfl]) (into awake (fun k hk => by rw [hk, Option.bind_some]) (Ev.now true))
  by_cases h1 : (l.length : Int) > 12
  · exact Ev.congr (fun k => by rw [papermilllaw39_SlitOnce.f, if_pos h1]) hj
  by_cases h2 : (m.length : Int) > 12
  · exact Ev.congr (fun k => by rw [papermilllaw39_SlitOnce.f, if_neg h1, decide_eq_true h2]) hj
  refine Ev.congr (g := fun k => papermilllaw39_SlitOnce.f k w L l u n w' L' m u' n' p q) (fun k => by rw [papermilllaw39_SlitOnce.f, if_neg h1, decide_eq_false h2]) ?_
  refine Ev.step (fun k => by rw [papermilllaw39_SlitOnce.j0, if_neg (by simp)]) ?_
  refine into (set_ w L l u n) (fun k hk => by rw [hk, Option.bind_some]) ?_
  refine into (set_ w L m u' n') (fun k hk => by rw [hk, Option.bind_some]) ?_
  have hj1 : ∀ a b, Ev (fun k => papermilllaw39_SlitOnce.j1 k a b true w L l u n w L m u' n' p q) true := fun a b => Ev.step (fun k => by rw [papermilllaw39_SlitOnce.j1, if_pos rfl]) (into awake (fun k hk => by rw [hk, Option.bind_some]) (Ev.now true))
  by_cases e1 : (setV w L l u n).2 = 0
  · by_cases e2 : (setV w L m u' n').2 = 0
    · obtain ⟨j, k1⟩ := job e1
      obtain ⟨j', k2⟩ := job e2
      have hl1 := j.l1
      have hu0 := j.u0
      have hn0 := j.n0
      have hn1 := j.n1
      rw [k1, k2]
      by_cases hu : u' < u + n
      · exact Ev.congr (fun k => by rw [if_pos e1, if_pos e2, w64 (x := u + n) (by omega) (by omega), decide_eq_true hu]) (hj1 _ _)
      · refine Ev.congr (f := fun k => papermilllaw39_SlitOnce.j1 k (kids L u n l) (kids L u' n' m) false w L l u n w L m u' n' p q) (fun k => by rw [if_pos e1, if_pos e2, w64 (x := u + n) (by omega) (by omega), decide_eq_false hu]) ?_
        refine Ev.step (fun k => by rw [papermilllaw39_SlitOnce.j1, if_neg (by simp)]) ?_
        exact once_l0 w L l u n m u' n' p q j j' (by omega) l.length 0 (by omega)
    · exact Ev.congr (fun k => by rw [if_pos e1, if_neg e2]) (hj1 _ _)
  · exact Ev.congr (fun k => by rw [if_neg e1]) (hj1 _ _)
end Go.Proofs.Ytocnlpnlngnbnaa.Pure
