/- The row of the law SlitTurned: for every input the call returns true, and each argument reads as before: out of its pure statement and the walk. -/
import Derived.Test.YtocnlpnlngnbnaaRows
import Derived.Test.YtocnlpnlngnbnaaStSlitTurned
import Derived.Test.YtocnlpnlngnbnaaPureSlitTurned
import Derived.Test.YtocnlpnlngnbnaaRowLib
import Derived.Test.YtocnlpnlngnbnaaWSized
import Derived.WalkKit
import Derived.ProofKit
import Derived.OpenShut
import Derived.ShutString
import Derived.ChangeOld
import Derived.Below
import Derived.SizedLaws
namespace Go.Proofs.Ytocnlpnlngnbnaa.slitTurned
open Go.ChangeShapes Go.WideShapes Go.ChangeAt Go.RowKit Go.Proofs.Ytocnlpnlngnbnaa.RowLib Go.Proofs.Ytocnlpnlngnbnaa.P39 Go.Proofs.YtocnlpnlngnbnaaW.PrintWords Go.Proofs.YtocnlpnlngnbnaaW.PrintLast Go.Proofs.YtocnlpnlngnbnaaW.PrintMore
open Go.ChangeMaps (open_string shut_string)
set_option linter.unusedVariables false
theorem own : ownKnob Try.prog.godebug = none := by kernel_rfl
theorem laidOut : laidOutB Try.prog = true := by kernel_rfl
set_option maxRecDepth 100000 in
set_option maxHeartbeats 2000000 in
theorem lifted (os : Os) (started : os.Started) (H : Type) (enc : TypeId × Value → H) :
    ReturnsInHanded {} Try.checked os 9 .any (Rows.slitTurnedSpec.pre6 enc Try.prog Try.f9 Rows.slitTurnedRow.domain false) (Rows.slitTurnedSpec.post enc Try.prog Try.f9 false true false false) := by
  refine returnsInHanded_of_change_sized (C := Try.checked) own started (by kernel_rfl) Try.func9
    (ChangeSpec.witness6 (enc := enc) (C := Try.checked) false ⟨#[], #[.agg #[.int .i64 0, .int .i64 0, .bool false, .slice none 0 0], .int .i64 0, .int .i64 0], []⟩ 8 (by kernel_rfl) (by kernel_rfl) (by kernel_rfl) (by kernel_rfl)) ?_
  intro W base args ds gs before hval0 hW hcnd hsz0 _
  have hval : ∀ (j : Nat) t v, Try.f9.params[j]? = some t → args[j]? = some v → Value.okWide Try.prog W .any base t v := hval0
  have hW' := hW
  obtain ⟨p, q, hA0, hV, rfl, hfz, hnd⟩ := hW
  have hA : DataW.TrodAll enc Try.prog W 0 (fun _ => true) true Try.f9.params.toList args.toList ds p := hA0
  rw [Try.params9] at hA hval
  obtain ⟨v0, vs0, d0, ds0, p0, q0, hargs, rfl, rfl, h0, r0⟩ := trodAll_cons hA
  obtain ⟨v1, vs1, d1, ds1, p1, q1, rfl, rfl, rfl, h1, r1⟩ := trodAll_cons r0
  obtain ⟨v2, vs2, d2, ds2, p2, q2, rfl, rfl, rfl, h2, r2⟩ := trodAll_cons r1
  obtain ⟨rfl, rfl, rfl⟩ := trodAll_nil r2
  obtain rfl : args = #[v0, v1, v2] := by cases args; simp_all
  obtain ⟨rfl, rfl⟩ := trodVars_none hV
  have k0 := h0
  have lt0 : ∀ x ∈ p0, x.block < W.heap.size := by obtain ⟨m, hm⟩ := k0; exact DataW.trod_lt m _ _ _ hm
  obtain ⟨⟨a0_0, a0_1, a0_2, l0_3⟩, l_0, rfl, hK0, hok0⟩ := Rdg.arg (Rdg.struct Try.underlying47 (by kernel_rfl) (Flds.cons (Rdg.i64 Try.underlying3) rfl (by kernel_rfl) (Flds.cons (Rdg.i64 Try.underlying3) rfl (by kernel_rfl) (Flds.cons (Rdg.bool Try.underlying4) rfl (by kernel_rfl) (Flds.last (Rdg.slice Try.underlying45 (by kernel_rfl) (show Rdg Try.prog 69 k69 _ from (Rdg.iso (Rdg.struct Try.underlying69 (by kernel_rfl) (Flds.cons (Rdg.i64 Try.underlying3) rfl (by kernel_rfl) (Flds.cons (Rdg.i64 Try.underlying3) rfl (by kernel_rfl) (Flds.last (Rdg.bool Try.underlying4) rfl (by kernel_rfl))))) (fun x : S69 => (x.f0, x.f1, x.f2)) (fun p => ⟨p.1, p.2.1, p.2.2⟩) (fun _ => rfl)))) rfl (by kernel_rfl)))))) (agg_of Try.underlying47 (hval 0 47 v0 rfl rfl)) h0
  obtain ⟨_, _, rfl, rfl, ⟨_, _, rfl, rfl, ⟨_, _, rfl, rfl, ⟨A0_3, c0_3, rfl, hc0_3, hr0_3⟩⟩⟩⟩ := hK0
  obtain ⟨a1, rfl, rfl, rfl, w1⟩ := open_int Try.underlying3 (hval 1 3 v1 rfl rfl) h1
  obtain ⟨a2, rfl, rfl, rfl, w2⟩ := open_int Try.underlying3 (hval 2 3 v2 rfl rfl) h2
  clear hA0 hval0 hsz0
  obtain ⟨k_, hp⟩ := Pure.SlitTurned a0_0 a0_1 a0_2 l0_3 a1 a2 hok0.1 hok0.2.1 hok0.2.2.2 (i64_of w1) (i64_of w2)
  have bel_of : ∀ W', Below W.heap.size W W' → Below W.heap.size W W' := fun _ h => h
  have hcall : Calls Try.prog 9 #[.agg #[.int .i64 a0_0, .int .i64 a0_1, .bool a0_2, .slice A0_3 l0_3.length c0_3], .int .i64 a1, .int .i64 a2] W fun e W' => e = .returned (.bool true) ∧ Below W.heap.size W W' := (papermilllaw39_SlitTurned.calls k_ a0_0 a0_1 a0_2 A0_3 c0_3 l0_3 a1 a2 true W hr0_3 hc0_3 hp).mono fun e W' h => ⟨h.1, bel_of W' h.2⟩
  refine hcall.mono fun e W' ⟨he, bel⟩ => ?_
  subst he
  exact ⟨_, rfl, _, _, _, [], _, [], hW', trodAll_mk1 (shut_bool Try.underlying4 _), (trodAll_cons_mk (Below.trod laidOut (by kernel_rfl) (of_decide_eq_true (by kernel_rfl)) k0 bel lt0) (trodAll_cons_mk (shut_int Try.underlying3 w1) (trodAll_cons_mk (shut_int Try.underlying3 w2) trodAll_mk0))), rfl, bel.frame _, fun h => by cases h⟩
theorem over : Rows.slitTurnedRow.holds Try.pinned (OpenSpec.ofChange Rows.slitTurnedSpec) :=
  OpenClaim.holds_of_wide 9 Try.f9 rfl rfl rfl rfl rfl rfl rfl ⟨rfl, rfl, rfl, rfl, rfl⟩ rfl rfl rfl rfl rfl (by kernel_rfl) Try.func9 (by kernel_rfl)
    (of_decide_eq_true (by kernel_rfl)) (by unfold Func.isWrapper; first | (rw [if_pos (by decide +kernel)]; kernel_rfl) | (rw [if_neg (by decide +kernel)]; exact ⟨rfl, rfl⟩))
    (fun os started H enc _ => lifted os started H enc)
theorem proved : Rows.SlitTurnedSaid := over
#print axioms proved
end Go.Proofs.Ytocnlpnlngnbnaa.slitTurned
namespace Go.Proofs.Ytocnlpnlngnbnaa
/-- The row, under a short name, for the claim. -/
theorem slitTurned_holds : Rows.SlitTurnedSaid := slitTurned.proved
end Go.Proofs.Ytocnlpnlngnbnaa
