/- The row of the law SlitOnce: for every input the call returns true, and each argument reads as before: out of its pure statement and the walk. -/
import Derived.Test.YtocnlpnlngnbnaaRows
import Derived.Test.YtocnlpnlngnbnaaStSlitOnce
import Derived.Test.YtocnlpnlngnbnaaPureSlitOnce
import Derived.Test.YtocnlpnlngnbnaaRowLib
import Derived.Test.YtocnlpnlngnbnaaWSized
import Derived.WalkKit
import Derived.ProofKit
import Derived.OpenShut
import Derived.ShutString
import Derived.ChangeOld
import Derived.Below
import Derived.SizedLaws
namespace Go.Proofs.Ytocnlpnlngnbnaa.slitOnce
open Go.ChangeShapes Go.WideShapes Go.ChangeAt Go.RowKit Go.Proofs.Ytocnlpnlngnbnaa.RowLib Go.Proofs.Ytocnlpnlngnbnaa.P39 Go.Proofs.YtocnlpnlngnbnaaW.PrintWords Go.Proofs.YtocnlpnlngnbnaaW.PrintLast Go.Proofs.YtocnlpnlngnbnaaW.PrintMore
open Go.ChangeMaps (open_string shut_string)
set_option linter.unusedVariables false
theorem own : ownKnob Try.prog.godebug = none := by kernel_rfl
theorem laidOut : laidOutB Try.prog = true := by kernel_rfl
set_option maxRecDepth 100000 in
set_option maxHeartbeats 2000000 in
theorem lifted (os : Os) (started : os.Started) (H : Type) (enc : TypeId × Value → H) :
    ReturnsInHanded {} Try.checked os 8 .any (Rows.slitOnceSpec.pre6 enc Try.prog Try.f8 Rows.slitOnceRow.domain false) (Rows.slitOnceSpec.post enc Try.prog Try.f8 false true false false) := by
  refine returnsInHanded_of_change_sized (C := Try.checked) own started (by kernel_rfl) Try.func8
    (ChangeSpec.witness6 (enc := enc) (C := Try.checked) false ⟨#[], #[.agg #[.int .i64 0, .int .i64 0, .slice none 0 0, .int .i64 0, .int .i64 0], .agg #[.int .i64 0, .int .i64 0, .slice none 0 0, .int .i64 0, .int .i64 0], .agg #[.int .i64 0, .int .i64 0]], []⟩ 8 (by kernel_rfl) (by kernel_rfl) (by kernel_rfl) (by kernel_rfl)) ?_
  intro W base args ds gs before hval0 hW hcnd hsz0 _
  have hval : ∀ (j : Nat) t v, Try.f8.params[j]? = some t → args[j]? = some v → Value.okWide Try.prog W .any base t v := hval0
  have hW' := hW
  obtain ⟨p, q, hA0, hV, rfl, hfz, hnd⟩ := hW
  have hA : DataW.TrodAll enc Try.prog W 0 (fun _ => true) true Try.f8.params.toList args.toList ds p := hA0
  rw [Try.params8] at hA hval
  obtain ⟨v0, vs0, d0, ds0, p0, q0, hargs, rfl, rfl, h0, r0⟩ := trodAll_cons hA
  obtain ⟨v1, vs1, d1, ds1, p1, q1, rfl, rfl, rfl, h1, r1⟩ := trodAll_cons r0
  obtain ⟨v2, vs2, d2, ds2, p2, q2, rfl, rfl, rfl, h2, r2⟩ := trodAll_cons r1
  obtain ⟨rfl, rfl, rfl⟩ := trodAll_nil r2
  obtain rfl : args = #[v0, v1, v2] := by cases args; simp_all
  obtain ⟨rfl, rfl⟩ := trodVars_none hV
  have k0 := h0
  have lt0 : ∀ x ∈ p0, x.block < W.heap.size := by obtain ⟨m, hm⟩ := k0; exact DataW.trod_lt m _ _ _ hm
  obtain ⟨⟨a0_0, a0_1, l0_2, a0_3, a0_4⟩, l_0, rfl, hK0, hok0⟩ := Rdg.arg (Rdg.struct Try.underlying36 (by kernel_rfl) (Flds.cons (Rdg.i64 Try.underlying3) rfl (by kernel_rfl) (Flds.cons (Rdg.i64 Try.underlying3) rfl (by kernel_rfl) (Flds.cons (Rdg.slice Try.underlying22 (by kernel_rfl) (show Rdg Try.prog 57 k57 _ from (Rdg.iso (Rdg.struct Try.underlying57 (by kernel_rfl) (Flds.cons (Rdg.i64 Try.underlying3) rfl (by kernel_rfl) (Flds.last (Rdg.i64 Try.underlying3) rfl (by kernel_rfl)))) (fun x : S57 => (x.f0, x.f1)) (fun p => ⟨p.1, p.2⟩) (fun _ => rfl)))) rfl (by kernel_rfl) (Flds.cons (Rdg.i64 Try.underlying3) rfl (by kernel_rfl) (Flds.last (Rdg.i64 Try.underlying3) rfl (by kernel_rfl))))))) (agg_of Try.underlying36 (hval 0 36 v0 rfl rfl)) h0
  obtain ⟨_, _, rfl, rfl, ⟨_, _, rfl, rfl, ⟨_, _, rfl, ⟨A0_2, c0_2, rfl, hc0_2, hr0_2⟩, ⟨_, _, rfl, rfl, rfl⟩⟩⟩⟩ := hK0
  have k1 := h1
  have lt1 : ∀ x ∈ p1, x.block < W.heap.size := by obtain ⟨m, hm⟩ := k1; exact DataW.trod_lt m _ _ _ hm
  obtain ⟨⟨a1_0, a1_1, l1_2, a1_3, a1_4⟩, l_1, rfl, hK1, hok1⟩ := Rdg.arg (Rdg.struct Try.underlying36 (by kernel_rfl) (Flds.cons (Rdg.i64 Try.underlying3) rfl (by kernel_rfl) (Flds.cons (Rdg.i64 Try.underlying3) rfl (by kernel_rfl) (Flds.cons (Rdg.slice Try.underlying22 (by kernel_rfl) (show Rdg Try.prog 57 k57 _ from (Rdg.iso (Rdg.struct Try.underlying57 (by kernel_rfl) (Flds.cons (Rdg.i64 Try.underlying3) rfl (by kernel_rfl) (Flds.last (Rdg.i64 Try.underlying3) rfl (by kernel_rfl)))) (fun x : S57 => (x.f0, x.f1)) (fun p => ⟨p.1, p.2⟩) (fun _ => rfl)))) rfl (by kernel_rfl) (Flds.cons (Rdg.i64 Try.underlying3) rfl (by kernel_rfl) (Flds.last (Rdg.i64 Try.underlying3) rfl (by kernel_rfl))))))) (agg_of Try.underlying36 (hval 1 36 v1 rfl rfl)) h1
  obtain ⟨_, _, rfl, rfl, ⟨_, _, rfl, rfl, ⟨_, _, rfl, ⟨A1_2, c1_2, rfl, hc1_2, hr1_2⟩, ⟨_, _, rfl, rfl, rfl⟩⟩⟩⟩ := hK1
  have k2 := h2
  have lt2 : ∀ x ∈ p2, x.block < W.heap.size := by obtain ⟨m, hm⟩ := k2; exact DataW.trod_lt m _ _ _ hm
  obtain ⟨⟨a2_0, a2_1⟩, l_2, rfl, hK2, hok2⟩ := Rdg.arg (Rdg.array2 Try.underlying60 (by kernel_rfl) (by kernel_rfl) (Rdg.i64 Try.underlying3)) (agg_of_array Try.underlying60 (hval 2 60 v2 rfl rfl)) h2
  obtain ⟨_, _, rfl, rfl, rfl⟩ := hK2
  clear hA0 hval0 hsz0
  obtain ⟨k_, hp⟩ := Pure.SlitOnce a0_0 a0_1 l0_2 a0_3 a0_4 a1_0 a1_1 l1_2 a1_3 a1_4 a2_0 a2_1 hok0.1 hok0.2.1 hok0.2.2.1 hok0.2.2.2.1 hok0.2.2.2.2 hok1.1 hok1.2.1 hok1.2.2.1 hok1.2.2.2.1 hok1.2.2.2.2 hok2.1 hok2.2
  have bel_of : ∀ W', Below W.heap.size W W' → Below W.heap.size W W' := fun _ h => h
  have hcall : Calls Try.prog 8 #[.agg #[.int .i64 a0_0, .int .i64 a0_1, .slice A0_2 l0_2.length c0_2, .int .i64 a0_3, .int .i64 a0_4], .agg #[.int .i64 a1_0, .int .i64 a1_1, .slice A1_2 l1_2.length c1_2, .int .i64 a1_3, .int .i64 a1_4], .agg #[.int .i64 a2_0, .int .i64 a2_1]] W fun e W' => e = .returned (.bool true) ∧ Below W.heap.size W W' := (papermilllaw39_SlitOnce.calls k_ a0_0 a0_1 A0_2 c0_2 l0_2 a0_3 a0_4 a1_0 a1_1 A1_2 c1_2 l1_2 a1_3 a1_4 a2_0 a2_1 true W hr0_2 hc0_2 hr1_2 hc1_2 hp).mono fun e W' h => ⟨h.1, bel_of W' h.2⟩
  refine hcall.mono fun e W' ⟨he, bel⟩ => ?_
  subst he
  exact ⟨_, rfl, _, _, _, [], _, [], hW', trodAll_mk1 (shut_bool Try.underlying4 _), (trodAll_cons_mk (Below.trod laidOut (by kernel_rfl) (of_decide_eq_true (by kernel_rfl)) k0 bel lt0) (trodAll_cons_mk (Below.trod laidOut (by kernel_rfl) (of_decide_eq_true (by kernel_rfl)) k1 bel lt1) (trodAll_cons_mk (Below.trod laidOut (by kernel_rfl) (of_decide_eq_true (by kernel_rfl)) k2 bel lt2) trodAll_mk0))), rfl, bel.frame _, fun h => by cases h⟩
theorem over : Rows.slitOnceRow.holds Try.pinned (OpenSpec.ofChange Rows.slitOnceSpec) :=
  OpenClaim.holds_of_wide 8 Try.f8 rfl rfl rfl rfl rfl rfl rfl ⟨rfl, rfl, rfl, rfl, rfl⟩ rfl rfl rfl rfl rfl (by kernel_rfl) Try.func8 (by kernel_rfl)
    (of_decide_eq_true (by kernel_rfl)) (by unfold Func.isWrapper; first | (rw [if_pos (by decide +kernel)]; kernel_rfl) | (rw [if_neg (by decide +kernel)]; exact ⟨rfl, rfl⟩))
    (fun os started H enc _ => lifted os started H enc)
theorem proved : Rows.SlitOnceSaid := over
#print axioms proved
end Go.Proofs.Ytocnlpnlngnbnaa.slitOnce
namespace Go.Proofs.Ytocnlpnlngnbnaa
/-- The row, under a short name, for the claim. -/
theorem slitOnce_holds : Rows.SlitOnceSaid := slitOnce.proved
end Go.Proofs.Ytocnlpnlngnbnaa
