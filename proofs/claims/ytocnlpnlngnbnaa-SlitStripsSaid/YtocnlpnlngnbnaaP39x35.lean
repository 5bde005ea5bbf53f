-- Made by wip/tools/gprint.py of this session, a driver over the kit's print program with given functions.
import Derived.Test.YtocnlpnlngnbnaaP39x0
import Derived.Test.YtocnlpnlngnbnaaP39x11
import Derived.Test.YtocnlpnlngnbnaaP39x34
namespace Go.Proofs.Ytocnlpnlngnbnaa.P39
open Go.RowKit Go.Proofs.YtocnlpnlngnbnaaW.PrintWords Go.Proofs.YtocnlpnlngnbnaaW.PrintLast Go.Proofs.YtocnlpnlngnbnaaW.PrintMore
attribute [local go_sem] max2_int min2_int max_two min_two max_three min_three max_four min_four   -- for this text's walks alone
set_option linter.unusedVariables false
set_option linter.unusedSimpArgs false

/-! ### slit_Set: function 31 -/
mutual
def slit_Set.j0 : Nat → Int → List (S57) → Bool → Int → Int → Option ((List (S47)) × Int)
 | 0, _, _, _, _, _ => none
 | k + 1, x1, x2, x21, x188000, x188001 => if x21 = true then (some (([] : List (S47)), 1)) else (if x188001 > (wrap64 (x1 - x188000)) then (some (([] : List (S47)), 21)) else ((api_Run_45.f (([(⟨wrap64 ((wrap64 (x1 - 1)) - x188000), x188001, decide (x188001 > 1)⟩ : S69)] : List (S69))) (x2.length : Int)).bind fun t192 => (slit_Set.l0 k t192 ([] : List (S47)) x2 (x2.length : Int) 0)))
def slit_Set.l0 : Nat → List (S69) → List (S47) → List (S57) → Int → Int → Option ((List (S47)) × Int)
 | 0, _, _, _, _, _ => none
 | k + 1, x11, x12, x72, x73, x74 => if x74 < x73 then (if 0 ≤ x74 then (if x74 < (x72.length : Int) then (if x74 ≤ (wrap64 (x74 + 1)) then (if (wrap64 (x74 + 1)) ≤ (x11.length : Int) then (if x12.length < 2932031007402 then (slit_Set.l0 k x11 (x12 ++ [(⟨(rd_T57 x72 x74).f0, (rd_T57 x72 x74).f1, false, ((x11.take ((wrap64 (x74 + 1)) : Int).toNat).drop (x74 : Int).toNat)⟩ : S47)]) x72 x73 (wrap64 (x74 + 1))) else (none)) else (none)) else (none)) else (none)) else (none)) else (some (x12, 0))
end
def slit_Set.f (k : Nat) (a0 : Int) (a1 : Int) (l2 : List (S57)) (a3_0 : Int) (a3_1 : Int) : Option ((List (S47)) × Int) := (slit_Check.f a0 l2).bind fun t188 => (if t188 = 0 then (if a1 < 1 then (slit_Set.j0 k a1 l2 true a3_0 a3_1) else (if a1 > 17179869184 then (slit_Set.j0 k a1 l2 true a3_0 a3_1) else (if a3_0 < 0 then (slit_Set.j0 k a1 l2 true a3_0 a3_1) else (if a3_0 > a1 then (slit_Set.j0 k a1 l2 true a3_0 a3_1) else (if a3_1 < 1 then (slit_Set.j0 k a1 l2 true a3_0 a3_1) else (slit_Set.j0 k a1 l2 (decide (a3_1 > 17179869184)) a3_0 a3_1)))))) else (some (([] : List (S47)), t188)))
theorem slit_Set.mono_l : ∀ k, (∀ y0 y1 y2 y3 y4, LeO (slit_Set.j0 k y0 y1 y2 y3 y4) (slit_Set.j0 (k + 1) y0 y1 y2 y3 y4)) ∧ (∀ y0 y1 y2 y3 y4, LeO (slit_Set.l0 k y0 y1 y2 y3 y4) (slit_Set.l0 (k + 1) y0 y1 y2 y3 y4))
 | 0 => ⟨fun _ _ _ _ _ r h => by simp [slit_Set.j0] at h, fun _ _ _ _ _ r h => by simp [slit_Set.l0] at h⟩
 | k + 1 => by
  obtain ⟨ih0, ih1⟩ := slit_Set.mono_l k
  refine ⟨?_, ?_⟩
  ·intro y0 y1 y2 y3 y4
   unfold slit_Set.j0
   repeat' first
   | (with_reducible exact ih0 _ _ _ _ _)
   | (with_reducible exact ih1 _ _ _ _ _)
   | (with_reducible exact LeO.refl _)
   | (with_reducible exact LeO.none _)
   | (with_reducible refine LeO.ite ?_ ?_)
   | (with_reducible refine LeO.bind ?_ (fun _ => ?_))
   | exact ih0 _ _ _ _ _
   | exact ih1 _ _ _ _ _
   | exact LeO.none _
   | refine LeO.ite ?_ ?_
   | refine LeO.bind ?_ (fun _ => ?_)
  ·intro y0 y1 y2 y3 y4
   unfold slit_Set.l0
   repeat' first
   | (with_reducible exact ih0 _ _ _ _ _)
   | (with_reducible exact ih1 _ _ _ _ _)
   | (with_reducible exact LeO.refl _)
   | (with_reducible exact LeO.none _)
   | (with_reducible refine LeO.ite ?_ ?_)
   | (with_reducible refine LeO.bind ?_ (fun _ => ?_))
   | exact ih0 _ _ _ _ _
   | exact ih1 _ _ _ _ _
   | exact LeO.none _
   | refine LeO.ite ?_ ?_
   | refine LeO.bind ?_ (fun _ => ?_)
theorem slit_Set.mono : ∀ a0 a1 a2 a3 a4 k, LeO (slit_Set.f k a0 a1 a2 a3 a4) (slit_Set.f (k + 1) a0 a1 a2 a3 a4) := by
 intro a0 a1 a2 a3 a4 k
 obtain ⟨ih0, ih1⟩ := slit_Set.mono_l k
 unfold slit_Set.f
 repeat' first
   | (with_reducible exact ih0 _ _ _ _ _)
   | (with_reducible exact ih1 _ _ _ _ _)
   | (with_reducible exact LeO.refl _)
   | (with_reducible exact LeO.none _)
   | (with_reducible refine LeO.ite ?_ ?_)
   | (with_reducible refine LeO.bind ?_ (fun _ => ?_))
   | exact ih0 _ _ _ _ _
   | exact ih1 _ _ _ _ _
   | exact LeO.none _
   | refine LeO.ite ?_ ?_
   | refine LeO.bind ?_ (fun _ => ?_)
def slit_Set.T13 : Bool × List (List Nat × List Nat) := (true, [([], []), ([], []), ([1], [1]), ([], []), ([3], [3]), ([], []), ([], []), ([], []), ([7], [7]), ([], []), ([9], [9]), ([5, 6, 8, 10], [5, 6, 8, 10]), ([2, 4, 11], [2, 4, 11]), ([12], [12]), ([0, 13], [0, 13]), ([14, 14, 0, 1, 2, 3, 4, 5, 6, 7, 8, 9, 10, 11, 12, 13, 14], [0, 14])])
def slit_Set.B13 : List Nat := [0, 0, 2, 0, 8, 0, 0, 0, 128, 0, 512, 2016, 4094, 8190, 16383, 32767]
theorem slit_Set.tab13 : rtab .any (opsOf Try.f31 13) = slit_Set.T13 := by kernel_rfl
theorem slit_Set.bits13 : waitsOk slit_Set.T13.2 slit_Set.B13 = true := by kernel_rfl
set_option maxHeartbeats 8000000 in
set_option maxRecDepth 100000 in
theorem slit_Set.calls (k : Nat) (a0 : Int) (a1 : Int) (A2 : Option Addr) (c2 : Nat) (l2 : List (S57)) (a3_0 : Int) (a3_1 : Int) (r1 : List (S47)) (r2 : Int) (w : World) (hr2 : Kd.C k57 w A2 l2.length l2) (hc2 : l2.length ≤ c2) (h : slit_Set.f k a0 a1 l2 a3_0 a3_1 = some (r1, r2)) :
  Calls Try.prog 31 #[.int .i64 a0, .int .i64 a1, .slice A2 l2.length c2, .agg #[.int .i64 a3_0, .int .i64 a3_1]] w fun e w' => ∃ v0_ : Value, e = .returned (.tuple #[v0_, .int .i64 r2]) ∧ Kd.N k47 47 w' w.heap.size (fun k_ => (w.heap.size ≤ k_)) v0_ r1 ∧ Below w.heap.size w w' := by
 have hu67 := Try.underlying67
 have hu69 := Try.underlying69
 have hu57 := Try.underlying57
 have hu47 := Try.underlying47
 have HR2 := Aside0.mk hr2
 have HC2 := Aside0.mk hc2
 clear hr2 hc2
 have HB := Aside0.mk (Below.refl w.heap.size w)
 have H : ((slit_Check.f a0 l2).bind fun t188 => (if t188 = 0 then (if a1 < 1 then (slit_Set.j0 k a1 l2 true a3_0 a3_1) else (if a1 > 17179869184 then (slit_Set.j0 k a1 l2 true a3_0 a3_1) else (if a3_0 < 0 then (slit_Set.j0 k a1 l2 true a3_0 a3_1) else (if a3_0 > a1 then (slit_Set.j0 k a1 l2 true a3_0 a3_1) else (if a3_1 < 1 then (slit_Set.j0 k a1 l2 true a3_0 a3_1) else (slit_Set.j0 k a1 l2 (decide (a3_1 > 17179869184)) a3_0 a3_1)))))) else (some (([] : List (S47)), t188)))) = some (r1, r2) := h
 clear h
 replace H := Option.bind_eq_some_iff.mp H
 obtain ⟨t188, A50, H⟩ := H
 replace H : (if t188 = 0 then (if a1 < 1 then (slit_Set.j0 k a1 l2 true a3_0 a3_1) else (if a1 > 17179869184 then (slit_Set.j0 k a1 l2 true a3_0 a3_1) else (if a3_0 < 0 then (slit_Set.j0 k a1 l2 true a3_0 a3_1) else (if a3_0 > a1 then (slit_Set.j0 k a1 l2 true a3_0 a3_1) else (if a3_1 < 1 then (slit_Set.j0 k a1 l2 true a3_0 a3_1) else (slit_Set.j0 k a1 l2 (decide (a3_1 > 17179869184)) a3_0 a3_1)))))) else (some (([] : List (S47)), t188))) = some (r1, r2) := H
 have A5 := Aside0.mk A50
 clear A50
 by_cases c6 : t188 = 0
 ·rw [if_pos c6] at H
  have c6b0 : (t188 == 0) = true := beq_iff_eq.mpr c6
  have c6b1 : (t188 != 0) = false := bne_eq_false_iff_eq.mpr c6
  clear c6
  have HC7 := Aside0.mk H
  clear H
  go_enter Try.func31, Try.ntmps31
  go_upto_region 4 with (first | ((with_reducible refine gate_dst (N := 7) rfl ?_); refine box_event ?hg (N := 7) ?hd (cs := #[.int .i64 a3_0, .int .i64 a3_1]) (t := 67) ?hr ?_; (case hd => rfl); (case hg => rfl); (case hr => first | (go_simp; done) | (go_simp; rfl)); intro gb187 hg w8 hbox hb; have n0_ := Aside0.mk (below_step (by repeat (first | (with_reducible first | exact HB.out | apply below_alloc | apply pw_below_drewN | apply below_drew1) | exact HB.out)) hb); have n1_ := Aside0.mk (hbox); have n2_ := Aside0.mk ((by rw [hg]; exact (below_size (by repeat (first | (with_reducible first | exact HB.out | apply below_alloc | apply pw_below_drewN | apply below_drew1) | exact HB.out))) : w.heap.size ≤ gb187)); have n3_ := Aside0.mk ((by rw [hg]; exact (below_size (by repeat (first | (with_reducible first | exact HB.out | apply below_alloc | apply pw_below_drewN | apply below_drew1) | exact HB.out))) : w.heap.size ≤ gb187)); clear HB; have HB := n0_; have BK187 := n1_; have GW187 := n2_; have GE187 := n3_; clear n0_ n1_ n2_ n3_; clear hb hbox hg) | ((with_reducible refine gate_callee (f := 14) rfl ?_); refine goesL_ (some 17) rfl rfl Try.func14 (by kernel_rfl) rfl #[.int .i64 a0, .slice A2 l2.length c2] rfl (by (try simp only [List.map_toArray, List.map_cons, List.map_nil]); first | done | rfl | (simp only [List.length_drop, List.length_take]; rfl)) ?_; (with_reducible refine (slit_Check.calls a0 _ _ l2 t188 _ ?side1 ?side2 A5.out).mono ?_); (case side1 => repeat (first | exact (Kd.C_below HR2.out HB.out) | (with_reducible refine Kd.C_alloc ?_ _) | (with_reducible refine Kd.C_drewN ?_ _) | (with_reducible refine Kd.C_drew ?_))); (case side2 => exact HC2.out); rintro e w9 ⟨rfl, hb⟩; refine ⟨_, rfl, ?_⟩; have n0_ := Aside0.mk (blk_below (g := gb187) (o := .cells #[.int .i64 a3_0, .int .i64 a3_1] 67 (0, 0)) (by (with_reducible repeat (first | refine blk_drewN ?_ _ | refine blk_drew ?_ | refine blk_alloc ?_ _)); exact BK187.out) hb); have n1_ := Aside0.mk (below_step (by repeat (first | (with_reducible first | exact HB.out | apply below_alloc | apply pw_below_drewN | apply below_drew1 | refine below_set ?_ GE187.out) | exact HB.out)) hb); clear BK187; clear HB; have BK187 := n0_; have HB := n1_; clear n0_ n1_; (try clear hb); (try clear hb2); (try clear hk); (try clear hi)))
  (try simp only [Act.put, List.setIfInBounds_toArray, List.set_cons_zero, List.set_cons_succ])
  go_cut [21] (fun v21 wc => ∃ (kq : Nat) (x21_6 : Bool), v21 = .bool x21_6 ∧ Aside0 (slit_Set.j0 kq a1 l2 x21_6 a3_0 a3_1 = some (r1, r2)) ∧ Aside0 (kq ≤ k) ∧ Aside0 (wc.heap[gb187]? = some (.cells #[.int .i64 a3_0, .int .i64 a3_1] 67 (0, 0))) ∧ Aside0 (Below w.heap.size w wc))
  case first =>
   have H := HC7.out
   clear HC7
   by_cases c10 : a1 < 1
   ·rw [if_pos c10] at H
    have c10b0 : decide (a1 < 1) = true := decide_eq_true c10
    clear c10
    (first | rw [c10b0] | (simp only [i64_w, i32_w]; rw [c10b0]) | skip)
    have H' := Aside0.mk H
    clear H
    go_wp2
    go_meet
    case rel => exact ⟨_, (true), (by first | rfl | (simp; done) | (simp [*]; done)), H', ⟨by first | omega | exact Nat.le_refl _⟩, ⟨by (with_reducible repeat (first | refine blk_drewN ?_ _ | refine blk_drew ?_ | refine blk_alloc ?_ _)); exact BK187.out⟩, ⟨by repeat (first | (with_reducible first | exact HB.out | apply below_alloc | apply pw_below_drewN | apply below_drew1 | refine below_set ?_ GE187.out) | exact HB.out)⟩⟩
   ·rw [if_neg c10] at H
    have c10b0 : decide (a1 < 1) = false := decide_eq_false c10
    clear c10
    (first | rw [c10b0] | (simp only [i64_w, i32_w]; rw [c10b0]) | skip)
    by_cases c11 : a1 > 17179869184
    ·rw [if_pos c11] at H
     have c11b0 : decide (17179869184 < a1) = true := decide_eq_true c11
     clear c11
     have H' := Aside0.mk H
     clear H
     go_wp2
     go_meet
     case rel => exact ⟨_, (true), (by first | rfl | (simp; done) | (simp [*]; done)), H', ⟨by first | omega | exact Nat.le_refl _⟩, ⟨by (with_reducible repeat (first | refine blk_drewN ?_ _ | refine blk_drew ?_ | refine blk_alloc ?_ _)); exact BK187.out⟩, ⟨by repeat (first | (with_reducible first | exact HB.out | apply below_alloc | apply pw_below_drewN | apply below_drew1 | refine below_set ?_ GE187.out) | exact HB.out)⟩⟩
    ·rw [if_neg c11] at H
     have c11b0 : decide (17179869184 < a1) = false := decide_eq_false c11
     clear c11
     by_cases c12 : a3_0 < 0
     ·rw [if_pos c12] at H
      have c12b0 : decide (a3_0 < 0) = true := decide_eq_true c12
      clear c12
      have H' := Aside0.mk H
      clear H
      have hcz13_0 : w9.cell? ⟨gb187, 0, none⟩ = some (.int .i64 a3_0) := (blk_cell BK187.out 0).trans rfl
      have hcz13_1 : w9.cell? ⟨gb187, 1, none⟩ = some (.int .i64 a3_1) := (blk_cell BK187.out 1).trans rfl
      have hfz13_0 := blk_frozen BK187.out 0
      have hfz13_1 := blk_frozen BK187.out 1
      go_wp2
      go_meet
      case rel => exact ⟨_, (true), (by first | rfl | (simp; done) | (simp [*]; done)), H', ⟨by first | omega | exact Nat.le_refl _⟩, ⟨by (with_reducible repeat (first | refine blk_drewN ?_ _ | refine blk_drew ?_ | refine blk_alloc ?_ _)); exact BK187.out⟩, ⟨by repeat (first | (with_reducible first | exact HB.out | apply below_alloc | apply pw_below_drewN | apply below_drew1 | refine below_set ?_ GE187.out) | exact HB.out)⟩⟩
     ·rw [if_neg c12] at H
      have c12b0 : decide (a3_0 < 0) = false := decide_eq_false c12
      clear c12
      by_cases c14 : a3_0 > a1
      ·rw [if_pos c14] at H
       have c14b0 : decide (a1 < a3_0) = true := decide_eq_true c14
       clear c14
       have H' := Aside0.mk H
       clear H
       have hcz15_0 : w9.cell? ⟨gb187, 0, none⟩ = some (.int .i64 a3_0) := (blk_cell BK187.out 0).trans rfl
       have hcz15_1 : w9.cell? ⟨gb187, 1, none⟩ = some (.int .i64 a3_1) := (blk_cell BK187.out 1).trans rfl
       have hfz15_0 := blk_frozen BK187.out 0
       have hfz15_1 := blk_frozen BK187.out 1
       go_wp2
       go_meet
       case rel => exact ⟨_, (true), (by first | rfl | (simp; done) | (simp [*]; done)), H', ⟨by first | omega | exact Nat.le_refl _⟩, ⟨by (with_reducible repeat (first | refine blk_drewN ?_ _ | refine blk_drew ?_ | refine blk_alloc ?_ _)); exact BK187.out⟩, ⟨by repeat (first | (with_reducible first | exact HB.out | apply below_alloc | apply pw_below_drewN | apply below_drew1 | refine below_set ?_ GE187.out) | exact HB.out)⟩⟩
      ·rw [if_neg c14] at H
       have c14b0 : decide (a1 < a3_0) = false := decide_eq_false c14
       clear c14
       by_cases c16 : a3_1 < 1
       ·rw [if_pos c16] at H
        have c16b0 : decide (a3_1 < 1) = true := decide_eq_true c16
        clear c16
        have H' := Aside0.mk H
        clear H
        have hcz17_0 : w9.cell? ⟨gb187, 0, none⟩ = some (.int .i64 a3_0) := (blk_cell BK187.out 0).trans rfl
        have hcz17_1 : w9.cell? ⟨gb187, 1, none⟩ = some (.int .i64 a3_1) := (blk_cell BK187.out 1).trans rfl
        have hfz17_0 := blk_frozen BK187.out 0
        have hfz17_1 := blk_frozen BK187.out 1
        go_wp2
        go_meet
        case rel => exact ⟨_, (true), (by first | rfl | (simp; done) | (simp [*]; done)), H', ⟨by first | omega | exact Nat.le_refl _⟩, ⟨by (with_reducible repeat (first | refine blk_drewN ?_ _ | refine blk_drew ?_ | refine blk_alloc ?_ _)); exact BK187.out⟩, ⟨by repeat (first | (with_reducible first | exact HB.out | apply below_alloc | apply pw_below_drewN | apply below_drew1 | refine below_set ?_ GE187.out) | exact HB.out)⟩⟩
       ·rw [if_neg c16] at H
        have c16b0 : decide (a3_1 < 1) = false := decide_eq_false c16
        clear c16
        have H' := Aside0.mk H
        clear H
        have hcz18_0 : w9.cell? ⟨gb187, 0, none⟩ = some (.int .i64 a3_0) := (blk_cell BK187.out 0).trans rfl
        have hcz18_1 : w9.cell? ⟨gb187, 1, none⟩ = some (.int .i64 a3_1) := (blk_cell BK187.out 1).trans rfl
        have hfz18_0 := blk_frozen BK187.out 0
        have hfz18_1 := blk_frozen BK187.out 1
        go_wp2
        go_meet
        case rel => exact ⟨_, (decide (a3_1 > 17179869184)), (by first | rfl | (simp; done) | (simp [*]; done)), H', ⟨by first | omega | exact Nat.le_refl _⟩, ⟨by (with_reducible repeat (first | refine blk_drewN ?_ _ | refine blk_drew ?_ | refine blk_alloc ?_ _)); exact BK187.out⟩, ⟨by repeat (first | (with_reducible first | exact HB.out | apply below_alloc | apply pw_below_drewN | apply below_drew1 | refine below_set ?_ GE187.out) | exact HB.out)⟩⟩
  case rest =>
   clear HC7
   try clear c1
   try clear c2
   try clear p2
   try clear c3
   try clear c6
   try clear c6b0
   try clear c6b1
   try clear c10
   try clear c10b0
   try clear c11
   try clear c11b0
   try clear c12
   try clear c12b0
   try clear c14
   try clear c14b0
   try clear c16
   try clear c16b0
   try clear hcz13_0
   try clear hcz13_1
   try clear hcz15_0
   try clear hcz15_1
   try clear hcz17_0
   try clear hcz17_1
   try clear hcz18_0
   try clear hcz18_1
   try clear hfz13_0
   try clear hfz13_1
   try clear hfz15_0
   try clear hfz15_1
   try clear hfz17_0
   try clear hfz17_1
   try clear hfz18_0
   try clear hfz18_1
   obtain ⟨kq, x21_6, rfl, HA, HJ6, BK187, HB⟩ := hcut
   cases kq with
   | zero => exact absurd HA.out (by simp [slit_Set.j0])
   | succ kj6 =>
    have H := HA.out
    clear HA
    simp only [slit_Set.j0] at H
    by_cases c19 : x21_6 = true
    ·subst c19
     have H1 : (some (([] : List (S47)), 1)) = some (r1, r2) := by rw [if_pos rfl] at H; exact H
     clear H
     have H := H1
     clear H1
     simp only [Option.some.injEq, Prod.mk.injEq] at H
     obtain ⟨rfl, rfl⟩ := H
     go_wp2
     go_ret2
     exact ⟨_, by first | rfl | (simp [errW_none, errW_some] <;> rfl) | (simp [*, errW_none, errW_some] <;> rfl), by first | exact Kd.S_nil _ _ _ _ _ | exact Kd.N_nil _ _ _ _ _ | exact Kd.V_nil _ _ _ _ _ | exact Kd.Q_nil _ _ _ _ _ | exact Kd.R_nil _ _ _ _ _, by repeat (first | (with_reducible first | exact HB.out | apply below_alloc | apply pw_below_drewN | apply below_drew1 | refine below_set ?_ GE187.out) | exact HB.out)⟩
    ·replace c19 := Bool.eq_false_iff.mpr c19
     subst c19
     have H1 : (if a3_1 > (wrap64 (a1 - a3_0)) then (some (([] : List (S47)), 21)) else ((api_Run_45.f (([(⟨wrap64 ((wrap64 (a1 - 1)) - a3_0), a3_1, decide (a3_1 > 1)⟩ : S69)] : List (S69))) (l2.length : Int)).bind fun t192 => (slit_Set.l0 kj6 t192 ([] : List (S47)) l2 (l2.length : Int) 0))) = some (r1, r2) := by rw [if_neg (show ¬ (false = true) by decide)] at H; exact H
     clear H
     have H := H1
     clear H1
     by_cases c20 : a3_1 > (wrap64 (a1 - a3_0))
     ·rw [if_pos c20] at H
      have c20b0 : decide ((wrap64 (a1 - a3_0)) < a3_1) = true := decide_eq_true c20
      clear c20
      simp only [Option.some.injEq, Prod.mk.injEq] at H
      obtain ⟨rfl, rfl⟩ := H
      have hcz21_0 : wc.cell? ⟨gb187, 0, none⟩ = some (.int .i64 a3_0) := (blk_cell BK187.out 0).trans rfl
      have hcz21_1 : wc.cell? ⟨gb187, 1, none⟩ = some (.int .i64 a3_1) := (blk_cell BK187.out 1).trans rfl
      have hfz21_0 := blk_frozen BK187.out 0
      have hfz21_1 := blk_frozen BK187.out 1
      go_wp2
      go_ret2
      exact ⟨_, by first | rfl | (simp [errW_none, errW_some] <;> rfl) | (simp [*, errW_none, errW_some] <;> rfl), by first | exact Kd.S_nil _ _ _ _ _ | exact Kd.N_nil _ _ _ _ _ | exact Kd.V_nil _ _ _ _ _ | exact Kd.Q_nil _ _ _ _ _ | exact Kd.R_nil _ _ _ _ _, by repeat (first | (with_reducible first | exact HB.out | apply below_alloc | apply pw_below_drewN | apply below_drew1 | refine below_set ?_ GE187.out) | exact HB.out)⟩
     ·rw [if_neg c20] at H
      have c20b0 : decide ((wrap64 (a1 - a3_0)) < a3_1) = false := decide_eq_false c20
      clear c20
      obtain ⟨y189, hy189⟩ : ∃ y_ : List (S69), y_ = (([(⟨wrap64 ((wrap64 (a1 - 1)) - a3_0), a3_1, decide (a3_1 > 1)⟩ : S69)] : List (S69))) := ⟨_, rfl⟩
      replace H : ((api_Run_45.f y189 (l2.length : Int)).bind fun t192 => (slit_Set.l0 kj6 t192 ([] : List (S47)) l2 (l2.length : Int) 0)) = some (r1, r2) := by first | (rw [hy189]; with_reducible exact H) | (have H2_ := (Option.bind_some _ _).symm.trans H; rw [hy189]; with_reducible exact H2_) | (have H2_ := (Option.bind_some _ _).symm.trans H; with_reducible exact H2_) | with_reducible exact H | (rw [hy189]; exact H) | exact H
      have Ny189 := Aside0.mk hy189
      clear hy189
      replace H := Option.bind_eq_some_iff.mp H
      obtain ⟨t192, A220, H⟩ := H
      replace H : (slit_Set.l0 kj6 t192 ([] : List (S47)) l2 (l2.length : Int) 0) = some (r1, r2) := H
      have A22 := Aside0.mk A220
      clear A220
      have H' := Aside0.mk H
      clear H
      have hcz23_0 : wc.cell? ⟨gb187, 0, none⟩ = some (.int .i64 a3_0) := (blk_cell BK187.out 0).trans rfl
      have hcz23_1 : wc.cell? ⟨gb187, 1, none⟩ = some (.int .i64 a3_1) := (blk_cell BK187.out 1).trans rfl
      have hfz23_0 := blk_frozen BK187.out 0
      have hfz23_1 := blk_frozen BK187.out 1
      go_wp2_with (first | ((with_reducible refine gate_dst (N := 68) rfl ?_); refine Kd.R_lit k69 _ 69 ?hg (N := 68) ?hd (xs := ([(⟨wrap64 ((wrap64 (a1 - 1)) - a3_0), a3_1, decide (a3_1 > 1)⟩ : S69)] : List (S69))) (inner := [.int .i64 (wrap64 ((wrap64 (a1 - 1)) - a3_0)), .int .i64 a3_1, .bool (decide (a3_1 > 1))]) (ok := fun _ => True) (okp := fun _ => True) ?hr ?hp (fun _ hk => hk) trivial (Below.refl _ _) (Nat.le_refl _) (by simp) ?_; (case hd => rfl); (case hg => rfl); (case hr => first | (go_simp; done) | (go_simp; rfl)); (case hp => exact (Reps.c3 (show Kd.M k69 _ _ _ (⟨wrap64 ((wrap64 (a1 - 1)) - a3_0), a3_1, decide (a3_1 > 1)⟩ : S69) [.int .i64 (wrap64 ((wrap64 (a1 - 1)) - a3_0)), .int .i64 a3_1, .bool (decide (a3_1 > 1))] from (k69_mkM _ _ _ (⟨wrap64 ((wrap64 (a1 - 1)) - a3_0), a3_1, decide (a3_1 > 1)⟩ : S69) )) (Reps.none _ _))); intro v190 w24 ho25 hb hg_ hnew_; clear hg_ hnew_; (first | rw [← Ny189.out] at ho25 | (simp only [Int.reduceToNat] at ho25; rw [← Ny189.out] at ho25)); have n0_ := Aside0.mk (Kd.R_lower (Kd.R_newM (M := fun k_ => (w.heap.size ≤ k_)) ho25 (below_size (by repeat (first | (with_reducible first | exact HB.out | apply below_alloc | apply pw_below_drewN | apply below_drew1 | refine below_set ?_ GE187.out) | exact HB.out))) (fun k_ h_ => h_)) (below_size (by repeat (first | (with_reducible first | exact HB.out | apply below_alloc | apply pw_below_drewN | apply below_drew1 | refine below_set ?_ GE187.out) | exact HB.out)))); have n1_ := Aside0.mk (blk_below (g := gb187) (o := .cells #[.int .i64 a3_0, .int .i64 a3_1] 67 (0, 0)) (by (with_reducible repeat (first | refine blk_drewN ?_ _ | refine blk_drew ?_ | refine blk_alloc ?_ _)); exact BK187.out) hb); have n2_ := Aside0.mk (below_step (by repeat (first | (with_reducible first | exact HB.out | apply below_alloc | apply pw_below_drewN | apply below_drew1 | refine below_set ?_ GE187.out) | exact HB.out)) hb); clear BK187; clear HB; have HO191 := n0_; have BK187 := n1_; have HB := n2_; clear n0_ n1_ n2_; clear hb ho25; obtain ⟨Ao26, co26, eo26⟩ := Kd.R_slice HO191.out; subst eo26) | ((with_reducible refine gate_callee (f := 45) rfl ?_); refine goesL_ (some 71) rfl rfl Try.func45 (by kernel_rfl) rfl #[.slice Ao26 y189.length co26, .int .i64 (l2.length : Int)] rfl (by (try simp only [List.map_toArray, List.map_cons, List.map_nil]); first | done | rfl | (simp only [List.length_drop, List.length_take]; rfl)) ?_; (with_reducible refine (api_Run_45.calls _ _ y189 (l2.length : Int) t192 _ ?side1 ?side2 A22.out).mono ?_); (case side1 => repeat (first | exact (Kd.R_reads' HO191.out).2.2 | (with_reducible refine Kd.C_alloc ?_ _) | (with_reducible refine Kd.C_drewN ?_ _) | (with_reducible refine Kd.C_drew ?_))); (case side2 => exact (Kd.R_reads' HO191.out).2.1); rintro e w27 ⟨v193, rfl, ho0, hb⟩; refine ⟨_, rfl, ?_⟩; have n0_ := Aside0.mk (Kd.R_elder' (by (with_reducible repeat (first | apply Kd.R_alloc | apply Kd.R_drewN | apply Kd.R_drew)); exact HO191.out) (Kd.R_base ho0) hb); have n1_ := Aside0.mk (Kd.R_lower (Kd.R_new' (Kd.R_newM (M := fun k_ => (w.heap.size ≤ k_)) ho0 (below_size (by repeat (first | (with_reducible first | exact HB.out | apply below_alloc | apply pw_below_drewN | apply below_drew1 | refine below_set ?_ GE187.out) | exact HB.out))) (fun k_ h_ => h_)) (Kd.R_lt (by (with_reducible repeat (first | apply Kd.R_alloc | apply Kd.R_drewN | apply Kd.R_drew)); exact HO191.out))) (below_size (by repeat (first | (with_reducible first | exact HB.out | apply below_alloc | apply pw_below_drewN | apply below_drew1 | refine below_set ?_ GE187.out) | exact HB.out)))); have n2_ := Aside0.mk (blk_below (g := gb187) (o := .cells #[.int .i64 a3_0, .int .i64 a3_1] 67 (0, 0)) (by (with_reducible repeat (first | refine blk_drewN ?_ _ | refine blk_drew ?_ | refine blk_alloc ?_ _)); exact BK187.out) hb); have n3_ := Aside0.mk (below_step (by repeat (first | (with_reducible first | exact HB.out | apply below_alloc | apply pw_below_drewN | apply below_drew1 | refine below_set ?_ GE187.out) | exact HB.out)) hb); clear HO191; clear BK187; clear HB; have HO191 := n0_; have HO194 := n1_; have BK187 := n2_; have HB := n3_; clear n0_ n1_ n2_ n3_; (try clear hb); (try clear hb2); (try clear hk); (try clear hi); (try clear ho0)))
      go_loopg [12, 74] kj6 (fun kq v12 v74 w' => ∃ (x12_2 : List (S47)) (x74_2 : Int), v74 = .int .i64 x74_2 ∧ Aside0 (slit_Set.l0 kq t192 x12_2 l2 (l2.length : Int) x74_2 = some (r1, r2)) ∧ Aside0 (kq ≤ kj6) ∧ Aside0 (Kd.R k69 69 w' w.heap.size (fun k_ => (w.heap.size ≤ k_)) v193 t192) ∧ Aside0 (Kd.N k47 47 w' w.heap.size (fun k_ => (w.heap.size ≤ k_) ∧ k_ ≠ gb187) v12 x12_2) ∧ Aside0 (w'.heap[gb187]? = some (.cells #[.int .i64 a3_0, .int .i64 a3_1] 67 (0, 0))) ∧ Aside0 (Below w.heap.size w w'))
      case atStart => exact ⟨(([] : List (S47))), (0), (by first | rfl | (simp; done) | (simp [*]; done)), H', ⟨Nat.le_refl _⟩, ⟨by (with_reducible repeat (first | apply Kd.R_alloc | apply Kd.R_drewN | apply Kd.R_drew)); exact Kd.R_mono HO194.out (fun _ hk => hk.1.1)⟩, ⟨by first | exact Kd.S_nil _ _ _ _ _ | exact Kd.N_nil _ _ _ _ _ | exact Kd.V_nil _ _ _ _ _ | exact Kd.Q_nil _ _ _ _ _ | exact Kd.R_nil _ _ _ _ _⟩, ⟨by (with_reducible repeat (first | refine blk_drewN ?_ _ | refine blk_drew ?_ | refine blk_alloc ?_ _)); exact BK187.out⟩, ⟨by repeat (first | (with_reducible first | exact HB.out | apply below_alloc | apply pw_below_drewN | apply below_drew1 | refine below_set ?_ GE187.out) | exact HB.out)⟩⟩
      case round =>
       clear H'
       try clear c1
       try clear c2
       try clear p2
       try clear c3
       try clear c4
       try clear c6
       try clear c6b0
       try clear c6b1
       try clear p6
       try clear c10
       try clear c10b0
       try clear c11
       try clear c11b0
       try clear c12
       try clear c12b0
       try clear c14
       try clear c14b0
       try clear c16
       try clear c16b0
       try clear c19
       try clear c20
       try clear c20b0
       try clear hcz13_0
       try clear hcz13_1
       try clear hcz15_0
       try clear hcz15_1
       try clear hcz17_0
       try clear hcz17_1
       try clear hcz18_0
       try clear hcz18_1
       try clear hcz21_0
       try clear hcz21_1
       try clear hcz23_0
       try clear hcz23_1
       try clear hfz13_0
       try clear hfz13_1
       try clear hfz15_0
       try clear hfz15_1
       try clear hfz17_0
       try clear hfz17_1
       try clear hfz18_0
       try clear hfz18_1
       try clear hfz21_0
       try clear hfz21_1
       try clear hfz23_0
       try clear hfz23_1
       try clear p2
       obtain ⟨x12_2, x74_2, rfl, HA, HK2, HO_11, HO_12, BK187, HB⟩ := hrel
       cases gk with
       | zero => exact absurd HA.out (by simp [slit_Set.l0])
       | succ k2 =>
        have H := HA.out
        clear HA
        simp only [slit_Set.l0] at H
        by_cases c28 : x74_2 < (l2.length : Int)
        ·rw [if_pos c28] at H
         have c28b0 : decide (x74_2 < (l2.length : Int)) = true := decide_eq_true c28
         clear c28
         by_cases c29 : 0 ≤ x74_2
         ·rw [if_pos c29] at H
          have c29b0 : decide (0 ≤ x74_2) = true := decide_eq_true c29
          clear c29
          by_cases c30 : x74_2 < (l2.length : Int)
          ·rw [if_pos c30] at H
           have c30b0 : decide (x74_2 < (l2.length : Int)) = true := decide_eq_true c30
           clear c30
           have c31b0 := eq_true (of_decide_eq_true (by first | (with_reducible assumption) | assumption) : 0 ≤ x74_2)
           by_cases c32 : x74_2 ≤ (wrap64 (x74_2 + 1))
           ·rw [if_pos c32] at H
            have c32b0 := eq_true c32
            have c32b1 : decide (x74_2 ≤ (wrap64 (x74_2 + 1))) = true := decide_eq_true c32
            by_cases c33 : (wrap64 (x74_2 + 1)) ≤ (t192.length : Int)
            ·rw [if_pos c33] at H
             have c33b0 := eq_true c33
             have c33b1 : decide ((wrap64 (x74_2 + 1)) ≤ (t192.length : Int)) = true := decide_eq_true c33
             obtain ⟨y197, hy197⟩ : ∃ y_ : List (S69), y_ = ((t192.take ((wrap64 (x74_2 + 1)) : Int).toNat).drop (x74_2 : Int).toNat) := ⟨_, rfl⟩
             replace H : (if x12_2.length < 2932031007402 then (slit_Set.l0 k2 t192 (x12_2 ++ [(⟨(rd_T57 l2 x74_2).f0, (rd_T57 l2 x74_2).f1, false, y197⟩ : S47)]) l2 (l2.length : Int) (wrap64 (x74_2 + 1))) else (none)) = some (r1, r2) := by first | (rw [hy197]; with_reducible exact H) | (have H2_ := (Option.bind_some _ _).symm.trans H; rw [hy197]; with_reducible exact H2_) | (have H2_ := (Option.bind_some _ _).symm.trans H; with_reducible exact H2_) | with_reducible exact H | (rw [hy197]; exact H) | exact H
             have Ny197 := Aside0.mk hy197
             clear hy197
             by_cases c34 : x12_2.length < 2932031007402
             ·rw [if_pos c34] at H
              have LMc34 := Aside0.mk c34
              clear c34
              obtain ⟨y202, hy202⟩ : ∃ y_ : List (S47), y_ = (x12_2 ++ [(⟨(rd_T57 l2 x74_2).f0, (rd_T57 l2 x74_2).f1, false, y197⟩ : S47)]) := ⟨_, rfl⟩
              replace H : (slit_Set.l0 k2 t192 y202 l2 (l2.length : Int) (wrap64 (x74_2 + 1))) = some (r1, r2) := by first | (rw [hy202]; with_reducible exact H) | (have H2_ := (Option.bind_some _ _).symm.trans H; rw [hy202]; with_reducible exact H2_) | (have H2_ := (Option.bind_some _ _).symm.trans H; with_reducible exact H2_) | with_reducible exact H | (rw [hy202]; exact H) | exact H
              have Ny202 := Aside0.mk hy202
              clear hy202
              have H' := Aside0.mk H
              clear H
              have p195 : 0 ≤ (x74_2 : Int) := of_decide_eq_true (by first | (with_reducible assumption) | assumption)
              have q195 : x74_2 < (l2.length : Int) := of_decide_eq_true (by first | (with_reducible assumption) | assumption)
              obtain ⟨ad195, e195, hx195_0, hx195_1⟩ := at_T57 HR2.out x74_2 p195 q195
              cases e195
              replace hx195_0 := (HB.out.cell (World.block_lt_of_cell? w _ hx195_0)).trans hx195_0
              replace hx195_1 := (HB.out.cell (World.block_lt_of_cell? w _ hx195_1)).trans hx195_1
              replace p195 := eq_true p195
              replace q195 := eq_true q195
              try go_wp2_with (first | ((with_reducible refine gate_dst (N := 14) rfl ?_); refine box_event ?hg (N := 14) ?hd (cs := #[.int .i64 0, .int .i64 0]) (t := 57) ?hr ?_; (case hd => rfl); (case hg => rfl); (case hr => first | (go_simp; done) | (go_simp; rfl)); intro gb196 hg w35 hbox hb; have n0_ := Aside0.mk (Kd.R_below (by (with_reducible repeat (first | apply Kd.R_alloc | apply Kd.R_drewN | apply Kd.R_drew)); exact HO_11.out) hb); have n1_ := Aside0.mk (Kd.N_below (Kd.N_elderB (by (with_reducible repeat (first | apply Kd.N_alloc | apply Kd.N_drewN | apply Kd.N_drew)); exact HO_12.out) gb196 (Nat.le_of_eq hg.symm)) hb); have n2_ := Aside0.mk (blk_below (g := gb187) (o := .cells #[.int .i64 a3_0, .int .i64 a3_1] 67 (0, 0)) (by (with_reducible repeat (first | refine blk_drewN ?_ _ | refine blk_drew ?_ | refine blk_alloc ?_ _)); exact BK187.out) hb); have n3_ := Aside0.mk (below_step (by repeat (first | (with_reducible first | exact HB.out | apply below_alloc | apply pw_below_drewN | apply below_drew1 | refine below_set ?_ GE187.out) | exact HB.out)) hb); have n4_ := Aside0.mk (hbox); have n5_ := Aside0.mk ((by rw [hg]; exact (below_size (by repeat (first | (with_reducible first | exact HB.out | apply below_alloc | apply pw_below_drewN | apply below_drew1 | refine below_set ?_ GE187.out) | exact HB.out))) : w.heap.size ≤ gb196)); have n6_ := Aside0.mk ((by rw [hg]; exact (below_size (by repeat (first | (with_reducible first | exact HB.out | apply below_alloc | apply pw_below_drewN | apply below_drew1 | refine below_set ?_ GE187.out) | exact HB.out))) : w.heap.size ≤ gb196)); have n7_ := Aside0.mk ((by rw [hg]; exact Nat.ne_of_lt (blk_lt (g := gb187) (o := .cells #[.int .i64 a3_0, .int .i64 a3_1] 67 (0, 0)) (by (with_reducible repeat (first | refine blk_drewN ?_ _ | refine blk_drew ?_ | refine blk_alloc ?_ _)); exact BK187.out)) : gb187 ≠ gb196)); have n8_ := Aside0.mk ((by rw [hg]; exact Nat.ne_of_gt (blk_lt (g := gb187) (o := .cells #[.int .i64 a3_0, .int .i64 a3_1] 67 (0, 0)) (by (with_reducible repeat (first | refine blk_drewN ?_ _ | refine blk_drew ?_ | refine blk_alloc ?_ _)); exact BK187.out)) : gb196 ≠ gb187)); clear HO_11; clear HO_12; clear BK187; clear HB; have HO_11 := n0_; have HO_12 := n1_; have BK187 := n2_; have HB := n3_; have BK196 := n4_; have GW196 := n5_; have GE196 := n6_; have NB187_196 := n7_; have NB196_187 := n8_; clear n0_ n1_ n2_ n3_ n4_ n5_ n6_ n7_ n8_; clear hb hbox hg; have hnb36 := NB196_187.out; have hnc36 := NB187_196.out; have hcz37_0 : w35.cell? ⟨gb196, 0, none⟩ = some (.int .i64 0) := (blk_cell BK196.out 0).trans rfl; have hcz37_1 : w35.cell? ⟨gb196, 1, none⟩ = some (.int .i64 0) := (blk_cell BK196.out 1).trans rfl; have hfz37_0 := blk_frozen BK196.out 0; have hfz37_1 := blk_frozen BK196.out 1))
              have n0_ : Aside0 (Kd.R k69 69 ((w35.setCell ⟨gb196, 0, none⟩ (.int .i64 ((rd_T57 l2 x74_2).f0))).setCell ⟨gb196, 1, none⟩ (.int .i64 ((rd_T57 l2 x74_2).f1))) w.heap.size (fun k_ => (w.heap.size ≤ k_)) v193 t192) := ⟨by (with_reducible repeat (first | apply Kd.R_alloc | apply Kd.R_drewN | apply Kd.R_drew)); exact Kd.R_mono (Kd.R_far (p := ⟨gb196, 1, none⟩) (Kd.R_far (p := ⟨gb196, 0, none⟩) (Kd.R_types HO_11.out BK196.out (by decide)) (fun _ hk => hk.2) (.int .i64 ((rd_T57 l2 x74_2).f0))) (fun _ hk => hk.2) (.int .i64 ((rd_T57 l2 x74_2).f1))) (fun _ hk => hk.1)⟩
              have n1_ : Aside0 (Kd.N k47 47 ((w35.setCell ⟨gb196, 0, none⟩ (.int .i64 ((rd_T57 l2 x74_2).f0))).setCell ⟨gb196, 1, none⟩ (.int .i64 ((rd_T57 l2 x74_2).f1))) w.heap.size (fun k_ => (w.heap.size ≤ k_) ∧ k_ ≠ gb187 ∧ k_ ≠ gb196) u12 x12_2) := ⟨by (with_reducible repeat (first | apply Kd.N_alloc | apply Kd.N_drewN | apply Kd.N_drew)); exact Kd.N_mono (Kd.N_far (p := ⟨gb196, 1, none⟩) (Kd.N_far (p := ⟨gb196, 0, none⟩) (Kd.N_mono HO_12.out (fun k_ hk => (⟨hk, hk.2⟩ : _ ∧ k_ ≠ gb196))) (fun _ hk => hk.2) (.int .i64 ((rd_T57 l2 x74_2).f0))) (fun _ hk => hk.2) (.int .i64 ((rd_T57 l2 x74_2).f1))) (fun _ hk => ⟨hk.1.1.1, ⟨hk.1.1.2, hk.1.2⟩⟩)⟩
              have n2_ : Aside0 (((w35.setCell ⟨gb196, 0, none⟩ (.int .i64 ((rd_T57 l2 x74_2).f0))).setCell ⟨gb196, 1, none⟩ (.int .i64 ((rd_T57 l2 x74_2).f1))).heap[gb187]? = some (.cells #[.int .i64 a3_0, .int .i64 a3_1] 67 (0, 0))) := ⟨by (with_reducible repeat (first | refine blk_drewN ?_ _ | refine blk_drew ?_ | refine blk_alloc ?_ _)); refine blk_far ?_ NB187_196.out _; (with_reducible repeat (first | refine blk_drewN ?_ _ | refine blk_drew ?_ | refine blk_alloc ?_ _)); refine blk_far ?_ NB187_196.out _; (with_reducible repeat (first | refine blk_drewN ?_ _ | refine blk_drew ?_ | refine blk_alloc ?_ _)); exact BK187.out⟩
              have n3_ : Aside0 (((w35.setCell ⟨gb196, 0, none⟩ (.int .i64 ((rd_T57 l2 x74_2).f0))).setCell ⟨gb196, 1, none⟩ (.int .i64 ((rd_T57 l2 x74_2).f1))).heap[gb196]? = some (.cells #[.int .i64 ((rd_T57 l2 x74_2).f0), .int .i64 ((rd_T57 l2 x74_2).f1)] 57 (0, 0))) := ⟨by (with_reducible repeat (first | refine blk_drewN ?_ _ | refine blk_drew ?_ | refine blk_alloc ?_ _)); refine blk_put (cs := #[.int .i64 ((rd_T57 l2 x74_2).f0), .int .i64 0]) ?_ 1 _ rfl; (with_reducible repeat (first | refine blk_drewN ?_ _ | refine blk_drew ?_ | refine blk_alloc ?_ _)); refine blk_put (cs := #[.int .i64 0, .int .i64 0]) ?_ 0 _ rfl; (with_reducible repeat (first | refine blk_drewN ?_ _ | refine blk_drew ?_ | refine blk_alloc ?_ _)); exact BK196.out⟩
              have n4_ : Aside0 (Below w.heap.size w ((w35.setCell ⟨gb196, 0, none⟩ (.int .i64 ((rd_T57 l2 x74_2).f0))).setCell ⟨gb196, 1, none⟩ (.int .i64 ((rd_T57 l2 x74_2).f1)))) := ⟨by repeat (first | (with_reducible first | exact HB.out | apply below_alloc | apply pw_below_drewN | apply below_drew1 | refine below_set ?_ GE187.out | refine below_set ?_ GE196.out) | exact HB.out)⟩
              (try clear HO_11)
              (try clear HO_12)
              (try clear BK187)
              (try clear BK196)
              (try clear HB)
              generalize ((w35.setCell ⟨gb196, 0, none⟩ (.int .i64 ((rd_T57 l2 x74_2).f0))).setCell ⟨gb196, 1, none⟩ (.int .i64 ((rd_T57 l2 x74_2).f1))) = w38 at n0_ n1_ n2_ n3_ n4_ ⊢
              have HO_11 := n0_
              have HO_12 := n1_
              have BK187 := n2_
              have BK196 := n3_
              have HB := n4_
              clear n0_ n1_ n2_ n3_ n4_
              have n0_ := Aside0.mk (Kd.R_drew HO_11.out)
              have n1_ := Aside0.mk (Kd.N_drew HO_12.out)
              have n2_ := Aside0.mk (blk_drew BK187.out)
              have n3_ := Aside0.mk (blk_drew BK196.out)
              have n4_ := Aside0.mk (below_drew1 HB.out)
              clear HO_11
              clear HO_12
              clear BK187
              clear BK196
              clear HB
              have HO_11 := n0_
              have HO_12 := n1_
              have BK187 := n2_
              have BK196 := n3_
              have HB := n4_
              clear n0_ n1_ n2_ n3_ n4_
              obtain ⟨Ao41, co41, eo41⟩ := Kd.R_slice HO_11.out
              (first | subst eo41 | (injection eo41 with f1_ f2_ f3_; have f4_ := f1_.symm; have f5_ := f3_.symm; clear f1_ f2_ f3_; subst f4_; subst f5_))
              have q40 : ((wrap64 (x74_2 + 1)) : Int) ≤ ((t192.length : Int) : Int) := of_decide_eq_true (by first | (with_reducible assumption) | assumption)
              obtain ⟨i040, hi040, _, hsz40, _⟩ := info_parts info69
              have hroom40 : t192.length ≤ co41 := (Kd.R_reads' HO_11.out).2.1
              have hC40 : Kd.F k69 _ _ Ao41 t192.length t192 := (Kd.V_at (base := w.heap.size) (Kd.R_V (Kd.R_types (Kd.R_types (Kd.R_apart' (HO_11.out) (Kd.N_typed HO_12.out) (by decide)) BK187.out (by decide)) BK196.out (by decide)))).2.2
              have ql40 : (x74_2 : Int) ≤ ((wrap64 (x74_2 + 1)) : Int) := of_decide_eq_true (by first | (with_reducible assumption) | assumption)
              have q040 : (0 : Int) ≤ (x74_2 : Int) := of_decide_eq_true (by first | (with_reducible assumption) | assumption)
              have hcut40 := cut_mid3 (P := Try.prog) 45 69 .i64 .i64 Try.underlying45 hi040 3 hsz40 Ao41 t192.length co41 x74_2 (wrap64 (x74_2 + 1)) q040 ql40 q40 hroom40 (show (x74_2 : Int) < ((wrap64 (x74_2 + 1)) : Int) from by have h_ : (x74_2 : Int) ≤ ((wrap64 (x74_2 + 1)) : Int) := ql40; unfold wrap64 at h_ ⊢; omega)
              have hr40 := Kd.F_mid (lo := (x74_2 : Int).toNat) (hi := ((wrap64 (x74_2 + 1)) : Int).toNat) (c := co41) hC40 (by omega) (by omega) hroom40
              obtain ⟨A40, hA40⟩ : ∃ A1, A1 = (if co41 = (x74_2 : Int).toNat then Ao41 else (Ao41 : Option Addr).map (·.add ((x74_2 : Int).toNat * 3))) := ⟨_, rfl⟩
              obtain ⟨c40, hc40⟩ : ∃ c1, c1 = ((wrap64 (x74_2 + 1)) : Int).toNat - (x74_2 : Int).toNat := ⟨_, rfl⟩
              have hy40 : y197.length = ((wrap64 (x74_2 + 1)) : Int).toNat - (x74_2 : Int).toNat := (by rw [Ny197.out, List.length_drop, List.length_take] <;> omega)
              rw [show ((t192).take ((wrap64 (x74_2 + 1)) : Int).toNat).drop (x74_2 : Int).toNat = y197 from Ny197.out.symm] at hr40
              replace hr40 : Kd.F k69 _ _ A40 y197.length y197 := (by rw [hA40]; exact hr40)
              rw [← hA40] at hcut40
              replace hcut40 := fun W => (hcut40 W).trans (show _ = Result.ok (Value.slice A40 y197.length c40) W by rw [hy40, hc40])
              have HO201 := Aside0.mk (show Kd.V k69 69 _ w.heap.size _ (.slice A40 y197.length c40) y197 from Kd.V_mk (by rw [hy40, hc40]; exact Nat.sub_le_sub_right (Nat.le_refl _) _) hr40)
              have HC201 := Aside0.mk (show y197.length ≤ c40 from by rw [hy40, hc40]; exact Nat.sub_le_sub_right (Nat.le_refl _) _)
              clear hr40 hC40 hroom40 hi040 hsz40 hc40
              have KY40 := Aside0.mk hy40
              have KA40 := Aside0.mk hA40
              clear hy40 hA40
              replace q40 := eq_true q40
              refine start_ (n := 16) (S := fun w' => w'.cell? ⟨gb196, 0, none⟩ = some (.int .i64 ((rd_T57 l2 x74_2).f0)) ∧ w'.cell? ⟨gb196, 1, none⟩ = some (.int .i64 ((rd_T57 l2 x74_2).f1))) (ds := []) #[false, false, false, false, false, false, false, false, false, false, false, false, false, false, false, false] (by kernel_rfl) rfl rfl ⟨(blk_cell BK196.out 0).trans rfl, (blk_cell BK196.out 1).trans rfl⟩ (fun hHeld => ?_); refine with_tabW slit_Set.tab13 slit_Set.bits13 (fun HT_ HW_ => ?_)
              generalize w38.drew = w39 at HO_11 HO_12 BK187 BK196 HB HO201 hHeld ⊢
              refine pure_ (i := 0) (N := some 79) (v := ?_) (a' := ?_) #[true, false, false, false, false, false, false, false, false, false, false, false, false, false, false, false] rfl rfl (any_of HT_.out (by kernel_rfl)) (fun _ _ _ h => h) (Or.inl ⟨by rfl, ?_⟩) ?_ ?_
              rotate_left
              ·intro w'
               go_simp
               with_reducible rfl
              rotate_left
              ·simp only [Act.put, List.setIfInBounds_toArray, List.set_cons_zero, List.set_cons_succ, i64_w, i32_w]
               rfl
              refine pure_ (i := 1) (N := some 80) (v := ?_) (a' := ?_) #[true, true, false, false, false, false, false, false, false, false, false, false, false, false, false, false] rfl rfl (any_of HT_.out (by kernel_rfl)) (fun _ _ _ h => h) (Or.inl ⟨by rfl, ?_⟩) ?_ ?_
              rotate_left
              ·intro w'
               go_simp
               with_reducible rfl
              rotate_left
              ·simp only [Act.put, List.setIfInBounds_toArray, List.set_cons_zero, List.set_cons_succ, i64_w, i32_w]
               rfl
              refine pure_ (i := 3) (N := some 82) (v := ?_) (a' := ?_) #[true, true, false, true, false, false, false, false, false, false, false, false, false, false, false, false] rfl rfl (any_of HT_.out (by kernel_rfl)) (fun _ _ _ h => h) (Or.inl ⟨by rfl, ?_⟩) ?_ ?_
              rotate_left
              ·intro w'
               go_simp
               with_reducible rfl
              rotate_left
              ·simp only [Act.put, List.setIfInBounds_toArray, List.set_cons_zero, List.set_cons_succ, i64_w, i32_w]
               rfl
              refine pure_ (i := 5) (N := some 84) (v := ?_) (a' := ?_) #[true, true, false, true, false, true, false, false, false, false, false, false, false, false, false, false] rfl rfl (any_of HT_.out (by kernel_rfl)) (fun _ _ _ h => h) (Or.inl ⟨by rfl, ?_⟩) ?_ ?_
              rotate_left
              ·intro w'
               go_simp
               with_reducible rfl
              rotate_left
              ·simp only [Act.put, List.setIfInBounds_toArray, List.set_cons_zero, List.set_cons_succ, i64_w, i32_w]
               rfl
              refine pure_ (i := 6) (N := some 85) (v := ?_) (a' := ?_) #[true, true, false, true, false, true, true, false, false, false, false, false, false, false, false, false] rfl rfl (any_of HT_.out (by kernel_rfl)) (fun _ _ _ h => h) (Or.inl ⟨by rfl, ?_⟩) ?_ ?_
              rotate_left
              ·intro w'
               go_simp
               with_reducible rfl
              rotate_left
              ·simp only [Act.put, List.setIfInBounds_toArray, List.set_cons_zero, List.set_cons_succ, i64_w, i32_w]
               rfl
              refine pure_ (i := 7) (N := some 86) (v := ?_) (a' := ?_) #[true, true, false, true, false, true, true, true, false, false, false, false, false, false, false, false] rfl rfl (any_of HT_.out (by kernel_rfl)) (fun _ _ _ h => h) (Or.inl ⟨by rfl, ?_⟩) ?_ ?_
              rotate_left
              ·intro w'
               go_simp
               with_reducible rfl
              rotate_left
              ·simp only [Act.put, List.setIfInBounds_toArray, List.set_cons_zero, List.set_cons_succ, i64_w, i32_w]
               rfl
              refine pure_ (i := 8) (N := some 87) (v := ?_) (a' := ?_) #[true, true, false, true, false, true, true, true, true, false, false, false, false, false, false, false] rfl rfl (any_of HT_.out (by kernel_rfl)) (fun _ _ _ h => h) (Or.inl ⟨by rfl, ?_⟩) ?_ ?_
              rotate_left
              ·intro w'
               go_simp
               with_reducible rfl
              rotate_left
              ·simp only [Act.put, List.setIfInBounds_toArray, List.set_cons_zero, List.set_cons_succ, i64_w, i32_w]
               rfl
              refine pure_ (i := 9) (N := some 88) (v := ?_) (a' := ?_) #[true, true, false, true, false, true, true, true, true, true, false, false, false, false, false, false] rfl rfl (any_of HT_.out (by kernel_rfl)) (fun _ _ _ h => h) (Or.inl ⟨by rfl, ?_⟩) ?_ ?_
              rotate_left
              ·intro w'
               go_simp
               with_reducible rfl
              rotate_left
              ·simp only [Act.put, List.setIfInBounds_toArray, List.set_cons_zero, List.set_cons_succ, i64_w, i32_w]
               rfl
              refine pure_ (i := 10) (N := some 89) (v := ?_) (a' := ?_) #[true, true, false, true, false, true, true, true, true, true, true, false, false, false, false, false] rfl rfl (any_of HT_.out (by kernel_rfl)) (fun _ _ _ h => h) (Or.inl ⟨by rfl, ?_⟩) ?_ ?_
              rotate_left
              ·intro w'
               go_simp
               with_reducible rfl
              rotate_left
              ·simp only [Act.put, List.setIfInBounds_toArray, List.set_cons_zero, List.set_cons_succ, i64_w, i32_w]
               rfl
              refine pure_ (i := 11) (N := some 90) (v := ?_) (a' := ?_) #[true, true, false, true, false, true, true, true, true, true, true, true, false, false, false, false] rfl rfl (any_of HT_.out (by kernel_rfl)) (fun _ _ _ h => h) (Or.inl ⟨by rfl, ?_⟩) ?_ ?_
              rotate_left
              ·intro w'
               go_simp
               with_reducible rfl
              rotate_left
              ·simp only [Act.put, List.setIfInBounds_toArray, List.set_cons_zero, List.set_cons_succ, i64_w, i32_w]
               rfl
              refine take_ (i := 2) (N := some 81) (v := ?_) (a' := ?_) #[true, true, true, true, false, true, true, true, true, true, true, true, false, false, false, false] rfl rfl (take_ofW HT_.out HW_.out (by kernel_rfl)) (fun _ _ _ h => h) (Or.inl ⟨by rfl, ?_⟩) hHeld ?_ ?_
              rotate_left
              ·rintro w' ⟨s0, s1⟩
               go_simp
               with_reducible rfl
              rotate_left
              ·simp only [Act.put, List.setIfInBounds_toArray, List.set_cons_zero, List.set_cons_succ, i64_w, i32_w]
               rfl
              refine take_ (i := 4) (N := some 83) (v := ?_) (a' := ?_) #[true, true, true, true, true, true, true, true, true, true, true, true, false, false, false, false] rfl rfl (take_ofW HT_.out HW_.out (by kernel_rfl)) (fun _ _ _ h => h) (Or.inl ⟨by rfl, ?_⟩) hHeld ?_ ?_
              rotate_left
              ·rintro w' ⟨s0, s1⟩
               go_simp
               with_reducible rfl
              rotate_left
              ·simp only [Act.put, List.setIfInBounds_toArray, List.set_cons_zero, List.set_cons_succ, i64_w, i32_w]
               rfl
              refine pure_ (i := 12) (N := some 91) (v := ?_) (a' := ?_) #[true, true, true, true, true, true, true, true, true, true, true, true, true, false, false, false] rfl rfl (any_of HT_.out (by kernel_rfl)) (fun _ _ _ h => h) (Or.inl ⟨by rfl, ?_⟩) ?_ ?_
              rotate_left
              ·intro w'
               go_simp
               with_reducible rfl
              rotate_left
              ·simp only [Act.put, List.setIfInBounds_toArray, List.set_cons_zero, List.set_cons_succ, i64_w, i32_w]
               rfl
              refine one_ (i := 13) (N := some 92) #[true, true, true, true, true, true, true, true, true, true, true, true, true, true, false, false] rfl rfl (one_of HT_.out (by kernel_rfl)) (by decide) (fun K hK => ?_)
              refine value_ (w1 := ?_) (v := ?_) (by rfl) rfl ?_ ?_
              rotate_left 2
              ·go_simp
               constructor
               ·rfl
               ·rfl
              refine hK.out _ _ ⟨(blk_cell (blk_alloc BK196.out _) 0).trans rfl, (blk_cell (blk_alloc BK196.out _) 1).trans rfl⟩ (fun hHeld => ?_)
              clear hK K
              refine norm_ (a' := ?_) ?_ ?_
              rotate_left
              ·show Act.put _ (some 92) _ = _
               simp only [Act.put, List.setIfInBounds_toArray, List.set_cons_zero, List.set_cons_succ, i64_w, i32_w]
               rfl
              refine one_ (i := 14) (N := some 93) #[true, true, true, true, true, true, true, true, true, true, true, true, true, true, true, false] rfl rfl (one_of HT_.out (by kernel_rfl)) (by decide) (fun K hK => ?_)
              refine Kd.N_append_step k47 (w0 := w) w.heap.size (by rfl) (.tmp 79) (.tmp 92) 37 47 (.agg #[(.int .i64 0), (.int .i64 0), (.bool false), (.slice none 0 0)]) 48 rfl Try.underlying37 info47 rfl (by decide) (by omega) u12 x12_2 (⟨(rd_T57 l2 x74_2).f0, (rd_T57 l2 x74_2).f1, false, y197⟩ : S47) [.int .i64 ((rd_T57 l2 x74_2).f0), .int .i64 ((rd_T57 l2 x74_2).f1), .bool false, .slice A40 y197.length c40] (fun k_ => (w.heap.size ≤ k_) ∧ k_ ≠ gb187 ∧ k_ ≠ gb196) (fun k_ => ((fun k_ => (w.heap.size ≤ k_) ∧ k_ ≠ gb187 ∧ k_ ≠ gb196)) k_ ∧ some k_ ≠ (u12 : Value).ownBlock) rfl rfl ?aP (fun _ hk => hk) ?aF ?aO ?aB ?aS ?aL ?_
              (case aP => exact (k47_mkF _ _ (⟨(rd_T57 l2 x74_2).f0, (rd_T57 l2 x74_2).f1, false, y197⟩ : S47) (Kd.V_reads' (Kd.V_mono (ok' := (fun k_ => ((fun k_ => (w.heap.size ≤ k_) ∧ k_ ≠ gb187 ∧ k_ ≠ gb196)) k_ ∧ some k_ ≠ (u12 : Value).ownBlock)) (HO201.out) (fun k_ hk => ⟨⟨hk.1.1.1, ⟨hk.1.2, hk.2⟩⟩, hk.1.1.2⟩))).2.1 (Kd.V_F (Kd.V_mono (ok' := (fun k_ => ((fun k_ => (w.heap.size ≤ k_) ∧ k_ ≠ gb187 ∧ k_ ≠ gb196)) k_ ∧ some k_ ≠ (u12 : Value).ownBlock)) (HO201.out) (fun k_ hk => ⟨⟨hk.1.1.1, ⟨hk.1.2, hk.2⟩⟩, hk.1.1.2⟩)))))
              (case aB => exact (by repeat (first | (with_reducible first | exact HB.out | apply below_alloc | apply pw_below_drewN | apply below_drew1 | refine below_set ?_ GE187.out | refine below_set ?_ GE196.out) | exact HB.out)))
              (case aF => exact (fun k_ hk => ⟨(Nat.le_trans (below_size (by repeat (first | (with_reducible first | exact HB.out | apply below_alloc | apply pw_below_drewN | apply below_drew1 | refine below_set ?_ GE187.out | refine below_set ?_ GE196.out) | exact HB.out))) hk), Kd.freshB (g := gb187) (o := .cells #[.int .i64 a3_0, .int .i64 a3_1] 67 (0, 0)) (by (with_reducible repeat (first | refine blk_drewN ?_ _ | refine blk_drew ?_ | refine blk_alloc ?_ _)); exact BK187.out) k_ hk, Kd.freshB (g := gb196) (o := .cells #[.int .i64 ((rd_T57 l2 x74_2).f0), .int .i64 ((rd_T57 l2 x74_2).f1)] 57 (0, 0)) (by (with_reducible repeat (first | refine blk_drewN ?_ _ | refine blk_drew ?_ | refine blk_alloc ?_ _)); exact BK196.out) k_ hk⟩))
              (case aO => exact (by (with_reducible repeat (first | apply Kd.N_alloc | apply Kd.N_drewN | apply Kd.N_drew)); exact HO_12.out))
              (case aS => exact (below_size (by repeat (first | (with_reducible first | exact HB.out | apply below_alloc | apply pw_below_drewN | apply below_drew1 | refine below_set ?_ GE187.out | refine below_set ?_ GE196.out) | exact HB.out))))
              (case aL => have := LMc34.out; omega)
              intro v203 w42 ho hb hg hat
              rw [← Ny202.out] at ho
              have n0_ := Aside0.mk (Kd.R_over' (by (with_reducible repeat (first | apply Kd.R_alloc | apply Kd.R_drewN | apply Kd.R_drew)); exact HO_11.out) (Kd.N_typed (by (with_reducible repeat (first | apply Kd.N_alloc | apply Kd.N_drewN | apply Kd.N_drew)); exact HO_12.out)) (by decide) hg)
              have n1_ := Aside0.mk (blk_grown (g := gb187) (o := .cells #[.int .i64 a3_0, .int .i64 a3_1] 67 (0, 0)) (by (with_reducible repeat (first | refine blk_drewN ?_ _ | refine blk_drew ?_ | refine blk_alloc ?_ _)); exact BK187.out) hg (Kd.N_ne HO_12.out BK187.out (by decide)))
              have n2_ := Aside0.mk (blk_grown (g := gb196) (o := .cells #[.int .i64 ((rd_T57 l2 x74_2).f0), .int .i64 ((rd_T57 l2 x74_2).f1)] 57 (0, 0)) (by (with_reducible repeat (first | refine blk_drewN ?_ _ | refine blk_drew ?_ | refine blk_alloc ?_ _)); exact BK196.out) hg (Kd.N_ne HO_12.out BK196.out (by decide)))
              have n3_ := Aside0.mk (Kd.V_afterv (ok := (fun k_ => (w.heap.size ≤ k_) ∧ k_ ≠ gb187 ∧ k_ ≠ gb196)) (by (with_reducible repeat (first | apply Kd.V_alloc | apply Kd.V_drewN | apply Kd.V_drew)); exact Kd.V_mono HO201.out (fun _ hk => ⟨⟨hk.1.1.1, ⟨hk.1.2, hk.2⟩⟩, hk.1.1.2⟩)) hg hat)
              have n4_ := Aside0.mk (hb)
              have n5_ := Aside0.mk (ho)
              clear HO_11
              clear BK187
              clear BK196
              clear HO201
              clear HB
              clear HO_12
              have HO_11 := n0_
              have BK187 := n1_
              have BK196 := n2_
              have HO201 := n3_
              have HB := n4_
              have HO204 := n5_
              clear n0_ n1_ n2_ n3_ n4_ n5_
              clear ho hb hg hat
              refine hK.out _ _ ⟨(blk_cell BK196.out 0).trans rfl, (blk_cell BK196.out 1).trans rfl⟩ (fun hHeld => ?_)
              clear hK K
              refine norm_ (a' := ?_) ?_ ?_
              rotate_left
              ·show Act.put _ (some 93) _ = _
               simp only [Act.put, List.setIfInBounds_toArray, List.set_cons_zero, List.set_cons_succ, i64_w, i32_w]
               rfl
              refine pure_ (i := 15) (N := some 12) (v := ?_) (a' := ?_) #[true, true, true, true, true, true, true, true, true, true, true, true, true, true, true, true] rfl rfl (any_of HT_.out (by kernel_rfl)) (fun _ _ _ h => h) (Or.inl ⟨by rfl, ?_⟩) ?_ ?_
              rotate_left
              ·intro w'
               go_simp
               with_reducible rfl
              rotate_left
              ·simp only [Act.put, List.setIfInBounds_toArray, List.set_cons_zero, List.set_cons_succ, i64_w, i32_w]
               rfl
              refine done_ (done_of HT_.out (by kernel_rfl)) ?_
              try go_wp2
              go_roundg k2
              case measure => have := HJ6.out; have := HK2.out; omega
              case rel => exact ⟨(y202), (wrap64 (x74_2 + 1)), (by first | rfl | (simp; done) | (simp [*]; done)), H', ⟨by have := HJ6.out; have := HK2.out; omega⟩, ⟨by (with_reducible repeat (first | apply Kd.R_alloc | apply Kd.R_drewN | apply Kd.R_drew)); exact HO_11.out⟩, ⟨by (with_reducible repeat (first | apply Kd.N_alloc | apply Kd.N_drewN | apply Kd.N_drew)); exact Kd.N_mono HO204.out (fun _ hk => ⟨hk.1, hk.2.1⟩)⟩, ⟨by (with_reducible repeat (first | refine blk_drewN ?_ _ | refine blk_drew ?_ | refine blk_alloc ?_ _)); exact BK187.out⟩, ⟨by repeat (first | (with_reducible first | exact HB.out | apply below_alloc | apply pw_below_drewN | apply below_drew1 | refine below_set ?_ GE187.out | refine below_set ?_ GE196.out) | exact HB.out)⟩⟩
             ·rw [if_neg c34] at H
              exact absurd H (by simp)
            ·rw [if_neg c33] at H
             exact absurd H (by simp)
           ·rw [if_neg c32] at H
            exact absurd H (by simp)
          ·rw [if_neg c30] at H
           exact absurd H (by simp)
         ·rw [if_neg c29] at H
          exact absurd H (by simp)
        ·rw [if_neg c28] at H
         have c28b0 : decide (x74_2 < (l2.length : Int)) = false := decide_eq_false c28
         clear c28
         simp only [Option.some.injEq, Prod.mk.injEq] at H
         obtain ⟨rfl, rfl⟩ := H
         go_wp2
         go_ret2
         exact ⟨_, by first | rfl | (simp [errW_none, errW_some] <;> rfl) | (simp [*, errW_none, errW_some] <;> rfl), by (with_reducible repeat (first | apply Kd.N_alloc | apply Kd.N_drewN | apply Kd.N_drew)); exact Kd.N_mono HO_12.out (fun _ hk => hk.1), by repeat (first | (with_reducible first | exact HB.out | apply below_alloc | apply pw_below_drewN | apply below_drew1 | refine below_set ?_ GE187.out) | exact HB.out)⟩
 ·rw [if_neg c6] at H
  have c6b0 : (t188 == 0) = false := beq_eq_false_iff_ne.mpr c6
  have c6b1 : (t188 != 0) = true := bne_iff_ne.mpr c6
  simp only [Option.some.injEq, Prod.mk.injEq] at H
  obtain ⟨rfl, rfl⟩ := H
  go_enter Try.func31, Try.ntmps31
  go_wp2_with (first | ((with_reducible refine gate_dst (N := 7) rfl ?_); refine box_event ?hg (N := 7) ?hd (cs := #[.int .i64 a3_0, .int .i64 a3_1]) (t := 67) ?hr ?_; (case hd => rfl); (case hg => rfl); (case hr => first | (go_simp; done) | (go_simp; rfl)); intro gb187 hg w43 hbox hb; have n0_ := Aside0.mk (below_step (by repeat (first | (with_reducible first | exact HB.out | apply below_alloc | apply pw_below_drewN | apply below_drew1) | exact HB.out)) hb); have n1_ := Aside0.mk (hbox); have n2_ := Aside0.mk ((by rw [hg]; exact (below_size (by repeat (first | (with_reducible first | exact HB.out | apply below_alloc | apply pw_below_drewN | apply below_drew1) | exact HB.out))) : w.heap.size ≤ gb187)); have n3_ := Aside0.mk ((by rw [hg]; exact (below_size (by repeat (first | (with_reducible first | exact HB.out | apply below_alloc | apply pw_below_drewN | apply below_drew1) | exact HB.out))) : w.heap.size ≤ gb187)); clear HB; have HB := n0_; have BK187 := n1_; have GW187 := n2_; have GE187 := n3_; clear n0_ n1_ n2_ n3_; clear hb hbox hg) | ((with_reducible refine gate_callee (f := 14) rfl ?_); refine goesL_ (some 17) rfl rfl Try.func14 (by kernel_rfl) rfl #[.int .i64 a0, .slice A2 l2.length c2] rfl (by (try simp only [List.map_toArray, List.map_cons, List.map_nil]); first | done | rfl | (simp only [List.length_drop, List.length_take]; rfl)) ?_; (with_reducible refine (slit_Check.calls a0 _ _ l2 t188 _ ?side1 ?side2 A5.out).mono ?_); (case side1 => repeat (first | exact (Kd.C_below HR2.out HB.out) | (with_reducible refine Kd.C_alloc ?_ _) | (with_reducible refine Kd.C_drewN ?_ _) | (with_reducible refine Kd.C_drew ?_))); (case side2 => exact HC2.out); rintro e w44 ⟨rfl, hb⟩; refine ⟨_, rfl, ?_⟩; have n0_ := Aside0.mk (blk_below (g := gb187) (o := .cells #[.int .i64 a3_0, .int .i64 a3_1] 67 (0, 0)) (by (with_reducible repeat (first | refine blk_drewN ?_ _ | refine blk_drew ?_ | refine blk_alloc ?_ _)); exact BK187.out) hb); have n1_ := Aside0.mk (below_step (by repeat (first | (with_reducible first | exact HB.out | apply below_alloc | apply pw_below_drewN | apply below_drew1 | refine below_set ?_ GE187.out) | exact HB.out)) hb); clear BK187; clear HB; have BK187 := n0_; have HB := n1_; clear n0_ n1_; (try clear hb); (try clear hb2); (try clear hk); (try clear hi)))
  go_ret2
  exact ⟨_, by first | rfl | (simp [errW_none, errW_some] <;> rfl) | (simp [*, errW_none, errW_some] <;> rfl), by first | exact Kd.S_nil _ _ _ _ _ | exact Kd.N_nil _ _ _ _ _ | exact Kd.V_nil _ _ _ _ _ | exact Kd.Q_nil _ _ _ _ _ | exact Kd.R_nil _ _ _ _ _, by repeat (first | (with_reducible first | exact HB.out | apply below_alloc | apply pw_below_drewN | apply below_drew1 | refine below_set ?_ GE187.out) | exact HB.out)⟩

end Go.Proofs.Ytocnlpnlngnbnaa.P39
