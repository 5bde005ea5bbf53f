/- SlitPattern: for every deckle and pattern, the strips of a pattern lie side by side from the edge on, and trim is what is left, and both edges (no condition). -/
import Derived.Test.YtocnlpnlngnbnaaSlit4
import Derived.Test.YtocnlpnlngnbnaaStSlitPattern
namespace Go.Proofs.Ytocnlpnlngnbnaa.Pure
open Go.RowKit Go.Proofs.YtocnlpnlngnbnaaW.PrintWords Go.Proofs.YtocnlpnlngnbnaaW.PrintLast Go.Proofs.YtocnlpnlngnbnaaW.PrintMore Go.Proofs.Ytocnlpnlngnbnaa.RowLib Go.Proofs.Ytocnlpnlngnbnaa.P39 Go.Proofs.Ytocnlpnlngnbnaa.P39.Slit
open Go.Proofs.Ytocnlpnlngnbnaa.P39.Pat (into w64 FitsE fits_ok fit_iff Fit Deck LeftP LeftV tot wid rd_at rd_mem tot_drop tot_nonneg tot_mem drop_rd)
section
variable (W E T K : Int) (l c : List Int)
theorem pat_l0 (ss : List S57) (left : Int) (b : Int) (hb : b ≤ 12000) (hl : ss.length ≤ 12) (d : Nat) : ∀ (i : Nat) (at_ : Int), i + d = ss.length → 0 ≤ at_ → Chain at_ (ss.drop i) b → Ev (fun k => papermilllaw39_SlitPattern.l1 k c ss left b 0 0 W E T K l) true → Ev (fun k => papermilllaw39_SlitPattern.l0 k c ss left at_ 0 (i : Int) W E T K l) true := by
  induction d with
  | zero =>
    intro i at_ hi _ hc h
    rw [List.drop_eq_nil_of_le (by omega)] at hc
    obtain rfl : at_ = b := hc
    exact Ev.step (fun k => by rw [papermilllaw39_SlitPattern.l0, if_neg (by omega)]) h
  | succ d ih =>
    intro i at_ hi h0 hc h
    have hil : i < ss.length := by omega
    rw [List.drop_eq_getElem_cons hil] at hc
    obtain ⟨h1, h2, h3⟩ := hc
    have h4 := (chain_le _ _ _ h3).1
    refine Ev.step (fun k => ?_) (ih (i + 1) (at_ + ss[i].f1) (by omega) (by omega) h3 h)
    rw [papermilllaw39_SlitPattern.l0, if_pos (by omega), if_pos (by omega), rd57 ss i hil, if_pos h1, if_neg (by omega), w64 (x := at_ + ss[i].f1) (by omega) (by omega), w64 (x := (i : Int) + 1) (by omega) (by omega)]
    rfl
theorem pat_l1 (dk : Deck W E T K l) (ft : Fit W E T K l c) (ss : List S57) (left at_ : Int) (r : List S57 × Int) (ht : Ev (fun k => slit_Trim.f k W ss) r) (d : Nat) : ∀ (i : Nat) (n : Int), i + d = c.length → 0 ≤ n → n + tot (c.drop i) = tot c → Ev (fun k => papermilllaw39_SlitPattern.l2 k ss left at_ (tot c) r.1 r.2 0 0 W E T K l) true → Ev (fun k => papermilllaw39_SlitPattern.l1 k c ss left at_ n (i : Int) W E T K l) true := by
  have hcl := ft.len
  have h8 := dk.le
  induction d with
  | zero =>
    intro i n hi h0 hn h
    rw [List.drop_eq_nil_of_le (by omega)] at hn
    simp only [tot, Int.add_zero] at hn
    subst hn
    refine Ev.step (fun k => by rw [papermilllaw39_SlitPattern.l1, if_neg (by omega)]) ?_
    exact into ht (fun k hk => by rw [hk, Option.bind_some]) h
  | succ d ih =>
    intro i n hi h0 hn h
    have hci := ft.nn _ (rd_mem c i (by omega))
    have htd := tot_drop c i (by omega)
    have h1 := tot_nonneg (c.drop (i + 1)) (fun x hx => ft.nn x (List.mem_of_mem_drop hx))
    have hK := ft.le
    have gk := dk.good.k1
    refine Ev.step (fun k => ?_) (ih (i + 1) (n + rd c (i : Int)) (by omega) (by omega) (by omega) h)
    rw [papermilllaw39_SlitPattern.l1, if_pos (by omega), if_pos (by omega), w64 (x := n + rd c (i : Int)) (by omega) (by omega), w64 (x := (i : Int) + 1) (by omega) (by omega)]
    rfl
theorem pat_l2 (ss : List S57) (left at_ pieces : Int) (t : List S57) (hp : pieces = (ss.length : Int)) (ha : at_ = wrap64 (wrap64 (W - E) - left)) (hs : gsum t = wrap64 (left + wrap64 (2 * E))) (hs2 : gsum t ≤ 100000) (ht : ∀ x ∈ t, 0 < x.f1) (htl : t.length ≤ 100) (hck : checkV W ss = 0) (d : Nat) : ∀ (i : Nat) (n : Int), i + d = t.length → 0 ≤ n → n + gsum (t.drop i) = gsum t → Ev (fun k => papermilllaw39_SlitPattern.l2 k ss left at_ pieces t 0 n (i : Int) W E T K l) true := by
  induction d with
  | zero =>
    intro i n hi h0 hn
    rw [List.drop_eq_nil_of_le (by omega)] at hn
    simp only [gsum, Int.add_zero] at hn
    refine Ev.step (fun k => by rw [papermilllaw39_SlitPattern.l2, if_neg (by omega), if_pos hp, if_pos ha, if_pos rfl, if_pos (by rw [hn, hs]), checkP, Option.bind_some, if_pos hck]) ?_
    exact into awake (fun k hk => by rw [hk, Option.bind_some]) (Ev.now true)
  | succ d ih =>
    intro i n hi h0 hn
    have hil : i < t.length := by omega
    have h1 := ht _ (List.getElem_mem hil)
    have h2 := gsum_nonneg (t.drop (i + 1)) (fun x hx => ht x (List.mem_of_mem_drop hx))
    rw [List.drop_eq_getElem_cons hil, gsum] at hn
    refine Ev.step (fun k => ?_) (ih (i + 1) (n + t[i].f1) (by omega) (by omega) (by omega))
    rw [papermilllaw39_SlitPattern.l2, if_pos (by omega), if_pos (by omega), rd57 t i hil, w64 (x := n + t[i].f1) (by omega) (by omega), w64 (x := (i : Int) + 1) (by omega) (by omega)]
    rfl
end
theorem SlitPattern : papermilllaw39_SlitPattern.Pure := by
  intro W E T K l c _ _ _ _ _ _
  apply Ev.rounds
  have hj : Ev (fun k => papermilllaw39_SlitPattern.j0 k c true W E T K l) true := Ev.step (fun k => by rw [papermilllaw39_SlitPattern.j0, if_pos rfl]) (into awake (fun k hk => by rw [hk, Option.bind_some]) (Ev.now true))
  by_cases h1 : (l.length : Int) > 12
  · exact Ev.congr (fun k => by rw [papermilllaw39_SlitPattern.f, if_pos h1]) hj
  by_cases h2 : (c.length : Int) > 12
  · exact Ev.congr (fun k => by rw [papermilllaw39_SlitPattern.f, if_neg h1, decide_eq_true h2]) hj
  refine Ev.congr (g := fun k => papermilllaw39_SlitPattern.f k W E T K l c) (fun k => by rw [papermilllaw39_SlitPattern.f, if_neg h1, decide_eq_false h2]) ?_
  refine Ev.step (fun k => by rw [papermilllaw39_SlitPattern.j0, if_neg (by simp)]) ?_
  refine into (stripsP W E T K l c) (fun k hk => by rw [hk, Option.bind_some]) ?_
  refine into (LeftP W E T K l c) (fun k hk => by rw [hk, Option.bind_some]) ?_
  unfold stripsV LeftV
  by_cases h : FitsE W E T K l c = 0
  · rw [if_pos h, if_pos h]
    obtain ⟨dk, _, hf⟩ := fits_ok h
    have ft := (fit_iff W E T K l c).1 hf
    have hw0 := dk.good.w0
    have hw1 := dk.good.w1
    have he0 := dk.good.e0
    have he1 := dk.good.e1
    have hk1 := dk.good.k1
    have hK := ft.le
    have hfit := ft.fit
    have hch := chain_rows c l E ft.nn (fun s hs => (dk.rng s hs).1)
    have hlen := rows_len c l E ft.len ft.nn
    have hle := (chain_le _ _ _ hch).1
    have ok : Ok W (rowsOf c l E) := chain_ok hch he0 (by omega) hw0 hw1 (by omega)
    have hck := (ok_iff W (rowsOf c l E)).2 ok
    have hg := chain_gaps W (rowsOf c l E) E _ 0 hch he0 (by omega)
    have ht := trimP W (rowsOf c l E)
    unfold trimV at ht
    rw [if_pos hck] at ht
    have hgl := gaps_len W (rowsOf c l E) 0
    refine Ev.congr (g := fun k => _) (fun k => by rw [if_pos rfl, if_pos rfl]) ?_
    refine pat_l0 W E T K l c (rowsOf c l E) (W - 2 * E - wid c l) (E + wid c l) (by omega) (by omega) (rowsOf c l E).length 0 E (by omega) he0 hch ?_
    refine pat_l1 W E T K l c dk ft (rowsOf c l E) _ _ _ ht c.length 0 0 (by omega) (by omega) (by simp) ?_
    have e1 : wrap64 (W - E) = W - E := w64 (by omega) (by omega)
    have e2 : wrap64 (2 * E) = 2 * E := w64 (by omega) (by omega)
    refine pat_l2 W E T K l (rowsOf c l E) _ _ _ (gaps W (rowsOf c l E) 0) (by omega) ?_ ?_ (by omega) (gaps_pos W _ 0) (by omega) hck (gaps W (rowsOf c l E) 0).length 0 0 (Nat.zero_add _) (by omega) (by simp)
    · rw [e1, w64 (by omega) (by omega)]
      omega
    · rw [e2, w64 (by omega) (by omega)]
      omega
  · rw [if_neg h, if_neg h]
    refine Ev.congr (g := fun k => _) (fun k => by rw [if_pos rfl, if_neg h, if_pos (by simp)]) ?_
    exact into awake (fun k hk => by rw [hk, Option.bind_some]) (Ev.now true)
end Go.Proofs.Ytocnlpnlngnbnaa.Pure
