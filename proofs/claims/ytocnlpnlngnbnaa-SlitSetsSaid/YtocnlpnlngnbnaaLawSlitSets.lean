/- The row of the law SlitSets: for every input the call returns true, and each argument reads as before: out of its pure statement and the walk. -/
import Derived.Test.YtocnlpnlngnbnaaRows
import Derived.Test.YtocnlpnlngnbnaaStSlitSets
import Derived.Test.YtocnlpnlngnbnaaPureSlitSets
import Derived.Test.YtocnlpnlngnbnaaRowLib
import Derived.Test.YtocnlpnlngnbnaaWSized
import Derived.WalkKit
import Derived.ProofKit
import Derived.OpenShut
import Derived.ShutString
import Derived.ChangeOld
import Derived.Below
import Derived.SizedLaws
namespace Go.Proofs.Ytocnlpnlngnbnaa.slitSets
open Go.ChangeShapes Go.WideShapes Go.ChangeAt Go.RowKit Go.Proofs.Ytocnlpnlngnbnaa.RowLib Go.Proofs.Ytocnlpnlngnbnaa.P39 Go.Proofs.YtocnlpnlngnbnaaW.PrintWords Go.Proofs.YtocnlpnlngnbnaaW.PrintLast Go.Proofs.YtocnlpnlngnbnaaW.PrintMore
open Go.ChangeMaps (open_string shut_string)
set_option linter.unusedVariables false
theorem own : ownKnob Try.prog.godebug = none := by kernel_rfl
theorem laidOut : laidOutB Try.prog = true := by kernel_rfl
set_option maxRecDepth 100000 in
set_option maxHeartbeats 2000000 in
theorem lifted (os : Os) (started : os.Started) (H : Type) (enc : TypeId × Value → H) :
    ReturnsInHanded {} Try.checked os 5 .any (Rows.slitSetsSpec.pre6 enc Try.prog Try.f5 Rows.slitSetsRow.domain false) (Rows.slitSetsSpec.post enc Try.prog Try.f5 false true false false) := by
  refine returnsInHanded_of_change_sized (C := Try.checked) own started (by kernel_rfl) Try.func5
    (ChangeSpec.witness6 (enc := enc) (C := Try.checked) false ⟨#[], #[.agg #[.int .i64 0, .int .i64 0, .slice none 0 0, .int .i64 0, .int .i64 0]], []⟩ 8 (by kernel_rfl) (by kernel_rfl) (by kernel_rfl) (by kernel_rfl)) ?_
  intro W base args ds gs before hval0 hW hcnd hsz0 _
  have hval : ∀ (j : Nat) t v, Try.f5.params[j]? = some t → args[j]? = some v → Value.okWide Try.prog W .any base t v := hval0
  have hW' := hW
  obtain ⟨p, q, hA0, hV, rfl, hfz, hnd⟩ := hW
  have hA : DataW.TrodAll enc Try.prog W 0 (fun _ => true) true Try.f5.params.toList args.toList ds p := hA0
  rw [Try.params5] at hA hval
  obtain ⟨v0, vs0, d0, ds0, p0, q0, hargs, rfl, rfl, h0, r0⟩ := trodAll_cons hA
  obtain ⟨rfl, rfl, rfl⟩ := trodAll_nil r0
  obtain rfl : args = #[v0] := by cases args; simp_all
  obtain ⟨rfl, rfl⟩ := trodVars_none hV
  have k0 := h0
  have lt0 : ∀ x ∈ p0, x.block < W.heap.size := by obtain ⟨m, hm⟩ := k0; exact DataW.trod_lt m _ _ _ hm
  obtain ⟨⟨a0_0, a0_1, l0_2, a0_3, a0_4⟩, l_0, rfl, hK0, hok0⟩ := Rdg.arg (Rdg.struct Try.underlying36 (by kernel_rfl) (Flds.cons (Rdg.i64 Try.underlying3) rfl (by kernel_rfl) (Flds.cons (Rdg.i64 Try.underlying3) rfl (by kernel_rfl) (Flds.cons (Rdg.slice Try.underlying22 (by kernel_rfl) (show Rdg Try.prog 57 k57 _ from (Rdg.iso (Rdg.struct Try.underlying57 (by kernel_rfl) (Flds.cons (Rdg.i64 Try.underlying3) rfl (by kernel_rfl) (Flds.last (Rdg.i64 Try.underlying3) rfl (by kernel_rfl)))) (fun x : S57 => (x.f0, x.f1)) (fun p => ⟨p.1, p.2⟩) (fun _ => rfl)))) rfl (by kernel_rfl) (Flds.cons (Rdg.i64 Try.underlying3) rfl (by kernel_rfl) (Flds.last (Rdg.i64 Try.underlying3) rfl (by kernel_rfl))))))) (agg_of Try.underlying36 (hval 0 36 v0 rfl rfl)) h0
  obtain ⟨_, _, rfl, rfl, ⟨_, _, rfl, rfl, ⟨_, _, rfl, ⟨A0_2, c0_2, rfl, hc0_2, hr0_2⟩, ⟨_, _, rfl, rfl, rfl⟩⟩⟩⟩ := hK0
  clear hA0 hval0 hsz0
  obtain ⟨k_, hp⟩ := Pure.SlitSets a0_0 a0_1 l0_2 a0_3 a0_4 hok0.1 hok0.2.1 hok0.2.2.1 hok0.2.2.2.1 hok0.2.2.2.2
  have bel_of : ∀ W', Below W.heap.size W W' → Below W.heap.size W W' := fun _ h => h
  have hcall : Calls Try.prog 5 #[.agg #[.int .i64 a0_0, .int .i64 a0_1, .slice A0_2 l0_2.length c0_2, .int .i64 a0_3, .int .i64 a0_4]] W fun e W' => e = .returned (.bool true) ∧ Below W.heap.size W W' := (papermilllaw39_SlitSets.calls k_ a0_0 a0_1 A0_2 c0_2 l0_2 a0_3 a0_4 true W hr0_2 hc0_2 hp).mono fun e W' h => ⟨h.1, bel_of W' h.2⟩
  refine hcall.mono fun e W' ⟨he, bel⟩ => ?_
  subst he
  exact ⟨_, rfl, _, _, _, [], _, [], hW', trodAll_mk1 (shut_bool Try.underlying4 _), (trodAll_cons_mk (Below.trod laidOut (by kernel_rfl) (of_decide_eq_true (by kernel_rfl)) k0 bel lt0) trodAll_mk0), rfl, bel.frame _, fun h => by cases h⟩
theorem over : Rows.slitSetsRow.holds Try.pinned (OpenSpec.ofChange Rows.slitSetsSpec) :=
  OpenClaim.holds_of_wide 5 Try.f5 rfl rfl rfl rfl rfl rfl rfl ⟨rfl, rfl, rfl, rfl, rfl⟩ rfl rfl rfl rfl rfl (by kernel_rfl) Try.func5 (by kernel_rfl)
    (of_decide_eq_true (by kernel_rfl)) (by unfold Func.isWrapper; first | (rw [if_pos (by decide +kernel)]; kernel_rfl) | (rw [if_neg (by decide +kernel)]; exact ⟨rfl, rfl⟩))
    (fun os started H enc _ => lifted os started H enc)
theorem proved : Rows.SlitSetsSaid := over
#print axioms proved
end Go.Proofs.Ytocnlpnlngnbnaa.slitSets
namespace Go.Proofs.Ytocnlpnlngnbnaa
/-- The row, under a short name, for the claim. -/
theorem slitSets_holds : Rows.SlitSetsSaid := slitSets.proved
end Go.Proofs.Ytocnlpnlngnbnaa
