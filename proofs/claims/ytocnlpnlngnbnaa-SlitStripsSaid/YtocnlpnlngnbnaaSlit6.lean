/- Slits: Strips of the reference. -/
import Derived.Test.YtocnlpnlngnbnaaPatR
import Derived.Test.YtocnlpnlngnbnaaSlit4
import Derived.Test.YtocnlpnlngnbnaaP39x44
namespace Go.Proofs.Ytocnlpnlngnbnaa.P39
open Go.RowKit Go.Proofs.YtocnlpnlngnbnaaW.PrintWords Go.Proofs.YtocnlpnlngnbnaaW.PrintLast Go.Proofs.YtocnlpnlngnbnaaW.PrintMore
set_option linter.unusedVariables false
set_option linter.unusedSimpArgs false
namespace Slit
open Pat (into w64 rd_at rd_mem tot wid wid_drop tot_drop mulb tot_mem tot_nonneg drop_rd FitsE FitsP FitsR fits_ok fit_iff Fit Deck LeftP LeftV)

theorem stripsR_l1 (W E T K : Int) (l c : List Int) (i : Nat) (hil : i < l.length) (hic : i < c.length) (hi : i ≤ 100) (s : Int) (hs : rd l (i : Int) = s) (h0 : 0 ≤ s) (h1 : s ≤ 12000) (r : List S57 × Int) (d : Nat) : ∀ (j : Nat) (out : List S57) (at_ : Int), (j : Int) + d = rd c (i : Int) → j + d ≤ 100 → out.length + d ≤ 100 → 0 ≤ at_ → at_ ≤ 12000 * (out.length + 1) →
    Ev (fun k => papermillref39_Strips.l0 k c (out ++ repl s d at_) (at_ + d * s) ((i + 1 : Nat) : Int) W E T K l) r → Ev (fun k => papermillref39_Strips.l1 k c out at_ (i : Int) (j : Int) W E T K l) r := by
  induction d with
  | zero =>
    intro j out at_ hj hj2 ho ha0 ha1 h
    rw [repl, List.append_nil, show at_ + ((0 : Nat) : Int) * s = at_ by simp] at h
    refine Ev.step (fun k => ?_) h
    rw [papermillref39_Strips.l1, if_pos (by omega), if_pos (by omega), if_neg (by omega), w64 (x := (i : Int) + 1) (by omega) (by omega)]
    rfl
  | succ d ih =>
    intro j out at_ hj hj2 ho ha0 ha1 h
    have hm := succ_mul' d s
    have h2 : Ev (fun k => papermillref39_Strips.l0 k c ((out ++ [⟨at_, s⟩]) ++ repl s d (at_ + s)) ((at_ + s) + d * s) ((i + 1 : Nat) : Int) W E T K l) r := by
      rw [List.append_assoc, show (at_ + s) + d * s = at_ + ((d + 1 : Nat) : Int) * s by omega]
      exact h
    have hl : (out ++ [(⟨at_, s⟩ : S57)]).length = out.length + 1 := by simp
    · have := ih (j + 1) (out ++ [⟨at_, s⟩]) (at_ + s) (by omega) (by omega) (by omega) (by omega) (by rw [hl]; omega) h2
      refine Ev.step (fun k => ?_) this
      rw [papermillref39_Strips.l1, if_pos (by omega), if_pos (by omega), if_pos (by omega), if_pos (by omega), if_pos (by omega), hs, w64 (x := at_ + s) (by omega) (by omega), w64 (x := (j : Int) + 1) (by omega) (by omega)]
      rfl
theorem stripsR_l0 (W E T K : Int) (l c : List Int) (dk : Deck W E T K l) (ft : Fit W E T K l c) (d : Nat) : ∀ (i : Nat) (out : List S57) (at_ : Int), i + d = c.length → (out.length : Int) + tot (c.drop i) ≤ 12 → 0 ≤ at_ → at_ ≤ 12000 * (out.length + 1) →
    Ev (fun k => papermillref39_Strips.l0 k c out at_ (i : Int) W E T K l) (out ++ rowsOf (c.drop i) (l.drop i) at_, 0) := by
  have hl := ft.len
  have h8 := dk.le
  have gw := dk.good.w1
  have ge := dk.good.e0
  induction d with
  | zero =>
    intro i out at_ hi _ _ _
    rw [List.drop_eq_nil_of_le (by omega : c.length ≤ i), rowsOf, List.append_nil]
    · exact Ev.step (fun k => by rw [papermillref39_Strips.l0, if_neg (by omega)]) (Ev.now _)
    · intro n c s l h
      cases h
  | succ d ih =>
    intro i out at_ hi ho ha0 ha1
    have hci := ft.nn _ (rd_mem c i (by omega))
    have hs := dk.rng _ (rd_mem l i (by omega))
    have ht := tot_drop c i (by omega)
    have h0 := tot_nonneg (c.drop (i + 1)) (fun x hx => ft.nn x (List.mem_of_mem_drop hx))
    rw [drop_rd c i (by omega), drop_rd l i (by omega), rowsOf]
    have hr := repl_len (rd l (i : Int)) (rd c (i : Int)).toNat at_
    have hm : (((rd c (i : Int)).toNat : Nat) : Int) = rd c (i : Int) := Int.toNat_of_nonneg hci
    have hb := mulb hci (show rd c (i : Int) ≤ rd c (i : Int) by omega) (show 0 ≤ rd l (i : Int) by omega) (show rd l (i : Int) ≤ 12000 by omega) hci
    have := ih (i + 1) (out ++ repl (rd l (i : Int)) (rd c (i : Int)).toNat at_) (at_ + rd c (i : Int) * rd l (i : Int)) (by omega) (by rw [List.length_append, hr]; omega) (by omega) (by rw [List.length_append, hr]; omega)
    rw [List.append_assoc] at this
    refine Ev.step (fun k => by rw [papermillref39_Strips.l0, if_pos (by omega)]) ?_
    exact stripsR_l1 W E T K l c i (by omega) (by omega) (by omega) _ rfl (by omega) (by omega) _ (rd c (i : Int)).toNat 0 out at_ (by omega) (by omega) (by omega) ha0 ha1 (by rw [hm]; exact this)
theorem stripsR (W E T K : Int) (l c : List Int) : Ev (fun k => papermillref39_Strips.f k W E T K l c) (stripsV W E T K l c) := by
  unfold stripsV
  by_cases h : FitsE W E T K l c = 0
  · rw [if_pos h]
    obtain ⟨dk, _, hf⟩ := fits_ok h
    have ft := (fit_iff W E T K l c).1 hf
    have hK := ft.le
    have gk := dk.good.k1
    have ge := dk.good.e0
    have ge1 := dk.good.e1
    have gw := dk.good.w1
    have := stripsR_l0 W E T K l c dk ft c.length 0 [] E (by omega) (by simp; omega) (by omega) (by simp; omega)
    simp only [List.drop_zero, List.nil_append] at this
    exact into (FitsR W E T K l c) (fun k hk => by rw [papermillref39_Strips.f, hk, Option.bind_some, if_pos h]; rfl) this
  · rw [if_neg h]
    exact into (FitsR W E T K l c) (fun k hk => by rw [papermillref39_Strips.f, hk, Option.bind_some, if_neg h]) (Ev.now _)

end Slit
end Go.Proofs.Ytocnlpnlngnbnaa.P39
