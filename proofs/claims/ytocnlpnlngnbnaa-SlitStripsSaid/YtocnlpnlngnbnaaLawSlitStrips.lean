/- The row of the law SlitStrips: for every input the call returns true, and each argument reads as before: out of its pure statement and the walk. -/
import Derived.Test.YtocnlpnlngnbnaaRows
import Derived.Test.YtocnlpnlngnbnaaStSlitStrips
import Derived.Test.YtocnlpnlngnbnaaPureSlitStrips
import Derived.Test.YtocnlpnlngnbnaaRowLib
import Derived.Test.YtocnlpnlngnbnaaWSized
import Derived.WalkKit
import Derived.ProofKit
import Derived.OpenShut
import Derived.ShutString
import Derived.ChangeOld
import Derived.Below
import Derived.SizedLaws
namespace Go.Proofs.Ytocnlpnlngnbnaa.slitStrips
open Go.ChangeShapes Go.WideShapes Go.ChangeAt Go.RowKit Go.Proofs.Ytocnlpnlngnbnaa.RowLib Go.Proofs.Ytocnlpnlngnbnaa.P39 Go.Proofs.YtocnlpnlngnbnaaW.PrintWords Go.Proofs.YtocnlpnlngnbnaaW.PrintLast Go.Proofs.YtocnlpnlngnbnaaW.PrintMore
open Go.ChangeMaps (open_string shut_string)
set_option linter.unusedVariables false
theorem own : ownKnob Try.prog.godebug = none := by kernel_rfl
theorem laidOut : laidOutB Try.prog = true := by kernel_rfl
set_option maxRecDepth 100000 in
set_option maxHeartbeats 2000000 in
theorem lifted (os : Os) (started : os.Started) (H : Type) (enc : TypeId × Value → H) :
    ReturnsInHanded {} Try.checked os 4 .any (Rows.slitStripsSpec.pre6 enc Try.prog Try.f4 Rows.slitStripsRow.domain false) (Rows.slitStripsSpec.post enc Try.prog Try.f4 false true false false) := by
  refine returnsInHanded_of_change_sized (C := Try.checked) own started (by kernel_rfl) Try.func4
    (ChangeSpec.witness6 (enc := enc) (C := Try.checked) false ⟨#[], #[.agg #[.int .i64 0, .int .i64 0, .int .i64 0, .int .i64 0, .slice none 0 0], .slice none 0 0], []⟩ 8 (by kernel_rfl) (by kernel_rfl) (by kernel_rfl) (by kernel_rfl)) ?_
  intro W base args ds gs before hval0 hW hcnd hsz0 _
  have hval : ∀ (j : Nat) t v, Try.f4.params[j]? = some t → args[j]? = some v → Value.okWide Try.prog W .any base t v := hval0
  have hW' := hW
  obtain ⟨p, q, hA0, hV, rfl, hfz, hnd⟩ := hW
  have hA : DataW.TrodAll enc Try.prog W 0 (fun _ => true) true Try.f4.params.toList args.toList ds p := hA0
  rw [Try.params4] at hA hval
  obtain ⟨v0, vs0, d0, ds0, p0, q0, hargs, rfl, rfl, h0, r0⟩ := trodAll_cons hA
  obtain ⟨v1, vs1, d1, ds1, p1, q1, rfl, rfl, rfl, h1, r1⟩ := trodAll_cons r0
  obtain ⟨rfl, rfl, rfl⟩ := trodAll_nil r1
  obtain rfl : args = #[v0, v1] := by cases args; simp_all
  obtain ⟨rfl, rfl⟩ := trodVars_none hV
  have k0 := h0
  have lt0 : ∀ x ∈ p0, x.block < W.heap.size := by obtain ⟨m, hm⟩ := k0; exact DataW.trod_lt m _ _ _ hm
  obtain ⟨⟨a0_0, a0_1, a0_2, a0_3, l0_4⟩, l_0, rfl, hK0, hok0⟩ := Rdg.arg (Rdg.struct Try.underlying32 (by kernel_rfl) (Flds.cons (Rdg.i64 Try.underlying3) rfl (by kernel_rfl) (Flds.cons (Rdg.i64 Try.underlying3) rfl (by kernel_rfl) (Flds.cons (Rdg.i64 Try.underlying3) rfl (by kernel_rfl) (Flds.cons (Rdg.i64 Try.underlying3) rfl (by kernel_rfl) (Flds.last (Rdg.slice Try.underlying30 (by kernel_rfl) (Rdg.i64 Try.underlying3)) rfl (by kernel_rfl))))))) (agg_of Try.underlying32 (hval 0 32 v0 rfl rfl)) h0
  obtain ⟨_, _, rfl, rfl, ⟨_, _, rfl, rfl, ⟨_, _, rfl, rfl, ⟨_, _, rfl, rfl, ⟨A0_4, c0_4, rfl, hc0_4, hr0_4⟩⟩⟩⟩⟩ := hK0
  have k1 := h1
  have lt1 : ∀ x ∈ p1, x.block < W.heap.size := by obtain ⟨m, hm⟩ := k1; exact DataW.trod_lt m _ _ _ hm
  obtain ⟨A1, c1, l1, rfl, hc1, hr1, hok1⟩ := Rdg.argslice Try.underlying30 (Rdg.slice Try.underlying30 (by kernel_rfl) (Rdg.i64 Try.underlying3)) (hval 1 30 v1 rfl rfl) h1
  clear hA0 hval0 hsz0
  obtain ⟨k_, hp⟩ := Pure.SlitStrips a0_0 a0_1 a0_2 a0_3 l0_4 l1 hok0.1 hok0.2.1 hok0.2.2.1 hok0.2.2.2.1 hok0.2.2.2.2 hok1
  have bel_of : ∀ W', Below W.heap.size W W' → Below W.heap.size W W' := fun _ h => h
  have hcall : Calls Try.prog 4 #[.agg #[.int .i64 a0_0, .int .i64 a0_1, .int .i64 a0_2, .int .i64 a0_3, .slice A0_4 l0_4.length c0_4], .slice A1 l1.length c1] W fun e W' => e = .returned (.bool true) ∧ Below W.heap.size W W' := (papermilllaw39_SlitStrips.calls k_ a0_0 a0_1 a0_2 a0_3 A0_4 c0_4 l0_4 A1 c1 l1 true W hr0_4 hc0_4 hr1 hc1 hp).mono fun e W' h => ⟨h.1, bel_of W' h.2⟩
  refine hcall.mono fun e W' ⟨he, bel⟩ => ?_
  subst he
  exact ⟨_, rfl, _, _, _, [], _, [], hW', trodAll_mk1 (shut_bool Try.underlying4 _), (trodAll_cons_mk (Below.trod laidOut (by kernel_rfl) (of_decide_eq_true (by kernel_rfl)) k0 bel lt0) (trodAll_cons_mk (Below.trod laidOut (by kernel_rfl) (of_decide_eq_true (by kernel_rfl)) k1 bel lt1) trodAll_mk0)), rfl, bel.frame _, fun h => by cases h⟩
theorem over : Rows.slitStripsRow.holds Try.pinned (OpenSpec.ofChange Rows.slitStripsSpec) :=
  OpenClaim.holds_of_wide 4 Try.f4 rfl rfl rfl rfl rfl rfl rfl ⟨rfl, rfl, rfl, rfl, rfl⟩ rfl rfl rfl rfl rfl (by kernel_rfl) Try.func4 (by kernel_rfl)
    (of_decide_eq_true (by kernel_rfl)) (by unfold Func.isWrapper; first | (rw [if_pos (by decide +kernel)]; kernel_rfl) | (rw [if_neg (by decide +kernel)]; exact ⟨rfl, rfl⟩))
    (fun os started H enc _ => lifted os started H enc)
theorem proved : Rows.SlitStripsSaid := over
#print axioms proved
end Go.Proofs.Ytocnlpnlngnbnaa.slitStrips
namespace Go.Proofs.Ytocnlpnlngnbnaa
/-- The row, under a short name, for the claim. -/
theorem slitStrips_holds : Rows.SlitStripsSaid := slitStrips.proved
end Go.Proofs.Ytocnlpnlngnbnaa
