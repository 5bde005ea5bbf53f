/- The row of the law SlitChecks: for every input the call returns true, and each argument reads as before: out of its pure statement and the walk. -/
import Derived.Test.YtocnlpnlngnbnaaRows
import Derived.Test.YtocnlpnlngnbnaaStSlitChecks
import Derived.Test.YtocnlpnlngnbnaaPureSlitChecks
import Derived.Test.YtocnlpnlngnbnaaRowLib
import Derived.Test.YtocnlpnlngnbnaaWSized
import Derived.WalkKit
import Derived.ProofKit
import Derived.OpenShut
import Derived.ShutString
import Derived.ChangeOld
import Derived.Below
import Derived.SizedLaws
namespace Go.Proofs.Ytocnlpnlngnbnaa.slitChecks
open Go.ChangeShapes Go.WideShapes Go.ChangeAt Go.RowKit Go.Proofs.Ytocnlpnlngnbnaa.RowLib Go.Proofs.Ytocnlpnlngnbnaa.P39 Go.Proofs.YtocnlpnlngnbnaaW.PrintWords Go.Proofs.YtocnlpnlngnbnaaW.PrintLast Go.Proofs.YtocnlpnlngnbnaaW.PrintMore
open Go.ChangeMaps (open_string shut_string)
set_option linter.unusedVariables false
theorem own : ownKnob Try.prog.godebug = none := by kernel_rfl
theorem laidOut : laidOutB Try.prog = true := by kernel_rfl
set_option maxRecDepth 100000 in
set_option maxHeartbeats 2000000 in
theorem lifted (os : Os) (started : os.Started) (H : Type) (enc : TypeId × Value → H) :
    ReturnsInHanded {} Try.checked os 3 .any (Rows.slitChecksSpec.pre6 enc Try.prog Try.f3 Rows.slitChecksRow.domain false) (Rows.slitChecksSpec.post enc Try.prog Try.f3 false true false false) := by
  refine returnsInHanded_of_change_sized (C := Try.checked) own started (by kernel_rfl) Try.func3
    (ChangeSpec.witness6 (enc := enc) (C := Try.checked) false ⟨#[], #[.int .i64 0, .slice none 0 0], []⟩ 8 (by kernel_rfl) (by kernel_rfl) (by kernel_rfl) (by kernel_rfl)) ?_
  intro W base args ds gs before hval0 hW hcnd hsz0 _
  have hval : ∀ (j : Nat) t v, Try.f3.params[j]? = some t → args[j]? = some v → Value.okWide Try.prog W .any base t v := hval0
  have hW' := hW
  obtain ⟨p, q, hA0, hV, rfl, hfz, hnd⟩ := hW
  have hA : DataW.TrodAll enc Try.prog W 0 (fun _ => true) true Try.f3.params.toList args.toList ds p := hA0
  rw [Try.params3] at hA hval
  obtain ⟨v0, vs0, d0, ds0, p0, q0, hargs, rfl, rfl, h0, r0⟩ := trodAll_cons hA
  obtain ⟨v1, vs1, d1, ds1, p1, q1, rfl, rfl, rfl, h1, r1⟩ := trodAll_cons r0
  obtain ⟨rfl, rfl, rfl⟩ := trodAll_nil r1
  obtain rfl : args = #[v0, v1] := by cases args; simp_all
  obtain ⟨rfl, rfl⟩ := trodVars_none hV
  obtain ⟨a0, rfl, rfl, rfl, w0⟩ := open_int Try.underlying3 (hval 0 3 v0 rfl rfl) h0
  have k1 := h1
  have lt1 : ∀ x ∈ p1, x.block < W.heap.size := by obtain ⟨m, hm⟩ := k1; exact DataW.trod_lt m _ _ _ hm
  obtain ⟨A1, c1, l1, rfl, hc1, hr1, hok1⟩ := Rdg.argslice Try.underlying22 (Rdg.slice Try.underlying22 (by kernel_rfl) (show Rdg Try.prog 57 k57 _ from (Rdg.iso (Rdg.struct Try.underlying57 (by kernel_rfl) (Flds.cons (Rdg.i64 Try.underlying3) rfl (by kernel_rfl) (Flds.last (Rdg.i64 Try.underlying3) rfl (by kernel_rfl)))) (fun x : S57 => (x.f0, x.f1)) (fun p => ⟨p.1, p.2⟩) (fun _ => rfl)))) (hval 1 22 v1 rfl rfl) h1
  clear hA0 hval0 hsz0
  obtain ⟨k_, hp⟩ := Pure.SlitChecks a0 l1 (i64_of w0) hok1
  have bel_of : ∀ W', Below W.heap.size W W' → Below W.heap.size W W' := fun _ h => h
  have hcall : Calls Try.prog 3 #[.int .i64 a0, .slice A1 l1.length c1] W fun e W' => e = .returned (.bool true) ∧ Below W.heap.size W W' := (papermilllaw39_SlitChecks.calls k_ a0 A1 c1 l1 true W hr1 hc1 hp).mono fun e W' h => ⟨h.1, bel_of W' h.2⟩
  refine hcall.mono fun e W' ⟨he, bel⟩ => ?_
  subst he
  exact ⟨_, rfl, _, _, _, [], _, [], hW', trodAll_mk1 (shut_bool Try.underlying4 _), (trodAll_cons_mk (shut_int Try.underlying3 w0) (trodAll_cons_mk (Below.trod laidOut (by kernel_rfl) (of_decide_eq_true (by kernel_rfl)) k1 bel lt1) trodAll_mk0)), rfl, bel.frame _, fun h => by cases h⟩
theorem over : Rows.slitChecksRow.holds Try.pinned (OpenSpec.ofChange Rows.slitChecksSpec) :=
  OpenClaim.holds_of_wide 3 Try.f3 rfl rfl rfl rfl rfl rfl rfl ⟨rfl, rfl, rfl, rfl, rfl⟩ rfl rfl rfl rfl rfl (by kernel_rfl) Try.func3 (by kernel_rfl)
    (of_decide_eq_true (by kernel_rfl)) (by unfold Func.isWrapper; first | (rw [if_pos (by decide +kernel)]; kernel_rfl) | (rw [if_neg (by decide +kernel)]; exact ⟨rfl, rfl⟩))
    (fun os started H enc _ => lifted os started H enc)
theorem proved : Rows.SlitChecksSaid := over
#print axioms proved
end Go.Proofs.Ytocnlpnlngnbnaa.slitChecks
namespace Go.Proofs.Ytocnlpnlngnbnaa
/-- The row, under a short name, for the claim. -/
theorem slitChecks_holds : Rows.SlitChecksSaid := slitChecks.proved
end Go.Proofs.Ytocnlpnlngnbnaa
