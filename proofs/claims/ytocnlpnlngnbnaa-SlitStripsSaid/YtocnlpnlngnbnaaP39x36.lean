-- Made by wip/tools/gprint.py of this session, a driver over the kit's print program with given functions.
import Derived.Test.YtocnlpnlngnbnaaP39x0
import Derived.Test.YtocnlpnlngnbnaaP39x11
import Derived.Test.YtocnlpnlngnbnaaP39x23
import Derived.Test.YtocnlpnlngnbnaaP39x27
import Derived.Test.YtocnlpnlngnbnaaP39x30
import Derived.Test.YtocnlpnlngnbnaaP39x35
namespace Go.Proofs.Ytocnlpnlngnbnaa.P39
open Go.RowKit Go.Proofs.YtocnlpnlngnbnaaW.PrintWords Go.Proofs.YtocnlpnlngnbnaaW.PrintLast Go.Proofs.YtocnlpnlngnbnaaW.PrintMore
attribute [local go_sem] max2_int min2_int max_two min_two max_three min_three max_four min_four   -- for this text's walks alone
set_option linter.unusedVariables false
set_option linter.unusedSimpArgs false

/-! ### papermilllaw39_awake: function 11 -/
def papermilllaw39_awake.f (k : Nat) : Option Bool := some true
theorem papermilllaw39_awake.mono : ∀ k, LeO (papermilllaw39_awake.f k) (papermilllaw39_awake.f (k + 1)) := fun _ => LeO.refl _
theorem aw_args {P : Program} {f : FuncId} {args args1 : Array Value} {w : World} {Q : Ending → World → Prop} (h : args = args1) (H : Calls P f args1 w Q) : Calls P f args w Q := h ▸ H
theorem aw_l57 (W : World) (a b c d : Int) : Kd.C k57 (W.alloc (.cells #[.int .i64 a, .int .i64 b, .int .i64 c, .int .i64 d] 57)) (some ⟨W.heap.size, 0, none⟩) ([⟨a, b⟩, ⟨c, d⟩] : List S57).length [⟨a, b⟩, ⟨c, d⟩] := by
 have hb := blk_new W (.cells #[.int .i64 a, .int .i64 b, .int .i64 c, .int .i64 d] 57)
 refine ⟨rfl, by simp, fun _ => ⟨_, rfl, fun j p hj => ?_⟩⟩
 match j, hj with
 | 0, hj =>
  obtain rfl := Option.some.inj hj
  refine ⟨_, rfl, k57_mk _ _, fun i u hu => ?_⟩
  rw [add_plain, blk_cell hb]
  match i, hu with
  | 0, hu => exact hu
  | 1, hu => exact hu
  | i + 2, hu => cases hu
 | 1, hj =>
  obtain rfl := Option.some.inj hj
  refine ⟨_, rfl, k57_mk _ _, fun i u hu => ?_⟩
  rw [add_plain, blk_cell hb]
  match i, hu with
  | 0, hu => exact hu
  | 1, hu => exact hu
  | i + 2, hu => cases hu
 | j + 2, hj => cases hj
theorem aw_l69 (W : World) (a b : Int) (c : Bool) : Kd.C k69 (W.alloc (.cells #[.int .i64 a, .int .i64 b, .bool c] 69)) (some ⟨W.heap.size, 0, none⟩) ([⟨a, b, c⟩] : List S69).length [⟨a, b, c⟩] := by
 have hb := blk_new W (.cells #[.int .i64 a, .int .i64 b, .bool c] 69)
 refine ⟨rfl, by simp, fun _ => ⟨_, rfl, fun j p hj => ?_⟩⟩
 match j, hj with
 | 0, hj =>
  obtain rfl := Option.some.inj hj
  refine ⟨_, rfl, k69_mk _ _, fun i u hu => ?_⟩
  rw [add_plain, blk_cell hb]
  match i, hu with
  | 0, hu => exact hu
  | 1, hu => exact hu
  | 2, hu => exact hu
  | i + 3, hu => cases hu
 | j + 1, hj => cases hj
def aw_c : List S47 := [⟨50, 2400, false, [⟨699, 200, true⟩]⟩, ⟨2450, 1600, false, [⟨699, 200, true⟩]⟩]
theorem aw_1 : papermilllaw39_deckle.f = some (5000, 50, 900, 4, [2400, 1600]) := by kernel_rfl
theorem aw_2 : slit_Strips.f 40 5000 50 900 4 [2400, 1600] [1, 1] = some ([⟨50, 2400⟩, ⟨2450, 1600⟩], 0) := by kernel_rfl
theorem aw_3 : slit_Trim.f 40 5000 [⟨50, 2400⟩, ⟨2450, 1600⟩] = some ([⟨0, 50⟩, ⟨4050, 950⟩], 0) := by kernel_rfl
theorem aw_4 : slit_Set.f 40 5000 1000 [⟨50, 2400⟩, ⟨2450, 1600⟩] 300 200 = some (aw_c, 0) := by kernel_rfl
theorem aw_5 : slit_Check.f 100 [⟨0, 60⟩, ⟨50, 20⟩] = some 12 := by kernel_rfl
theorem aw_6 : slit_Place.f 40 2450 1600 false [⟨699, 200, true⟩] 10 0 = some (2460, 699, 0) := by kernel_rfl
theorem aw_7 : slit_Turned.f 40 2450 1600 false [⟨699, 200, true⟩] = some (2450, 1600, true, [⟨699, 200, true⟩], 0) := by kernel_rfl
theorem aw_8 : slit_Place.f 40 2450 1600 true [⟨699, 200, true⟩] 10 0 = some (4039, 699, 0) := by kernel_rfl
theorem aw_9 : papermillref39_Same.f 40 [⟨50, 2400⟩, ⟨2450, 1600⟩] [⟨50, 2400⟩, ⟨2450, 1600⟩] = some true := by kernel_rfl
theorem aw_10 : papermillref39_Same.f 40 [⟨0, 50⟩, ⟨4050, 950⟩] [⟨0, 50⟩, ⟨4050, 950⟩] = some true := by kernel_rfl
theorem aw_11 : papermillref39_Child.f 40 50 2400 false [⟨699, 200, true⟩] 50 2400 false [⟨699, 200, true⟩] = some true := by kernel_rfl
set_option maxHeartbeats 4000000 in
set_option maxRecDepth 100000 in
theorem papermilllaw39_awake.calls (k : Nat) (r : Bool) (w : World) (H : papermilllaw39_awake.f k = some r) :
  Calls Try.prog 11 #[] w fun e w' => e = .returned (.bool r) ∧ Below w.heap.size w w' := by
 obtain rfl := Option.some.inj H
 clear H
 have E1 := aw_1
 have E2 := aw_2
 have E3 := aw_3
 have E4 := aw_4
 have E5 := aw_5
 have E6 := aw_6
 have E7 := aw_7
 have E8 := aw_8
 have E9 := aw_9
 have E10 := aw_10
 have E11 := aw_11
 obtain ⟨cs, ecs⟩ : ∃ cs, cs = aw_c := ⟨_, rfl⟩
 have R0 : rd_T47 cs 0 = ⟨50, 2400, false, [⟨699, 200, true⟩]⟩ := by rw [ecs]; rfl
 have R1 : rd_T47 cs 1 = ⟨2450, 1600, false, [⟨699, 200, true⟩]⟩ := by rw [ecs]; rfl
 have hcs : cs.length = 2 := by rw [ecs]; rfl
 rw [← ecs] at E4
 clear ecs
 have HB := Aside0.mk (Below.refl w.heap.size w)
 have hu57 := Try.underlying57
 have hu47 := Try.underlying47
 go_enter Try.func11, Try.ntmps11
 go_wp2_with (first
  | ((with_reducible refine gate_callee (f := 30) rfl ?_); (refine goesL_ (some 16) rfl rfl Try.func30 (by kernel_rfl) rfl #[] rfl (by (try simp only [List.map_toArray, List.map_cons, List.map_nil]); first | done | rfl | (simp only [List.length_drop, List.length_take]; rfl)) ?_; ((with_reducible refine (papermilllaw39_deckle.calls _ _ _ _ _ _ E1).mono ?_); (rintro e w1 ⟨v1, rfl, ho0, hb⟩; refine ⟨_, rfl, ?_⟩; have nb_ := Aside0.mk (below_step (by repeat (first | (with_reducible first | exact HB.out | apply below_alloc | apply pw_below_drewN | apply below_drew1) | exact HB.out)) hb); clear HB ; have HB := nb_; clear nb_; clear hb; obtain ⟨AD, cD, eD⟩ := Kd.R_slice ho0; subst eD; have HD := Aside0.mk (Kd.R_reads' ho0).2.2; have hcD := (Kd.R_reads' ho0).2.1; clear ho0))))
  | ((with_reducible refine gate_dst (N := 17) rfl ?_); (try (refine gate_guard (by rfl) ?_; dsimp only)); refine Kd.R_lit (Kd.int .i64) _ 3 ?hg (N := 17) ?hd (xs := ([1, 1] : List Int)) (inner := [.int .i64 1, .int .i64 1]) (ok := fun _ => True) (okp := fun _ => True) ?hr ?hp (fun _ hk => hk) trivial (Below.refl _ _) (Nat.le_refl _) (by simp) ?_; (case hd => rfl); (case hg => rfl); (case hr => first | (go_simp; done) | (go_simp; rfl)); (case hp => exact (Reps.one (show Kd.M (Kd.int .i64) _ _ _ 1 [.int .i64 1] from rfl) (Reps.one (show Kd.M (Kd.int .i64) _ _ _ 1 [.int .i64 1] from rfl) (Reps.none _ _)))); intro v1 w1 ho0 hb hg_ hnew_; clear hg_ hnew_; have n0_ := Aside0.mk (Kd.C_below HD.out (below_step (by repeat (first | (with_reducible first | exact Below.refl _ _ | apply below_alloc | apply pw_below_drewN | apply below_drew1) | exact Below.refl _ _)) hb)); have nb_ := Aside0.mk (below_step (by repeat (first | (with_reducible first | exact HB.out | apply below_alloc | apply pw_below_drewN | apply below_drew1) | exact HB.out)) hb); clear HB HD; have HB := nb_; clear nb_; have HD := n0_; clear n0_; clear hb; obtain ⟨AQ, cQ, eQ⟩ := Kd.R_slice ho0; subst eQ; have HQ := Aside0.mk (Kd.R_reads' ho0).2.2; have hcQ := (Kd.R_reads' ho0).2.1; clear ho0)
  | ((with_reducible refine gate_callee (f := 17) rfl ?_); (refine goesL_ (some 18) rfl rfl Try.func17 (by kernel_rfl) rfl #[.agg #[.int .i64 5000, .int .i64 50, .int .i64 900, .int .i64 4, .slice AD ([2400, 1600] : List Int).length cD], .slice AQ ([1, 1] : List Int).length cQ] rfl (by (try simp only [List.map_toArray, List.map_cons, List.map_nil]); first | done | rfl | (simp only [List.length_drop, List.length_take]; rfl)) ?_; ((with_reducible refine (slit_Strips.calls 40 5000 50 900 4 _ _ [2400, 1600] _ _ [1, 1] _ _ _ ?side1 ?side2 ?side3 ?side4 E2).mono ?_); (case side1 => (exact (by repeat (first | (with_reducible exact HD.out) | (with_reducible refine Kd.C_alloc ?_ _) | (with_reducible refine Kd.C_drewN ?_ _) | (with_reducible refine Kd.C_drew ?_) | exact HD.out)))); (case side2 => (exact hcD)); (case side3 => (exact (by repeat (first | (with_reducible exact HQ.out) | (with_reducible refine Kd.C_alloc ?_ _) | (with_reducible refine Kd.C_drewN ?_ _) | (with_reducible refine Kd.C_drew ?_) | exact HQ.out)))); (case side4 => (exact hcQ)); (rintro e w1 ⟨v1, rfl, ho0, hb⟩; refine ⟨_, rfl, ?_⟩; have nb_ := Aside0.mk (below_step (by repeat (first | (with_reducible first | exact HB.out | apply below_alloc | apply pw_below_drewN | apply below_drew1) | exact HB.out)) hb); clear HB ; have HB := nb_; clear nb_; clear hb; clear HD HQ; obtain ⟨AL, cL, eL⟩ := Kd.R_slice ho0; subst eL; have HL := Aside0.mk (Kd.R_reads' ho0).2.2; have hcL := (Kd.R_reads' ho0).2.1; clear ho0))))
  | ((with_reducible refine gate_callee (f := 12) rfl ?_); (refine goesL_ (some 23) rfl rfl Try.func12 (by kernel_rfl) rfl #[.int .i64 5000, .slice AL ([⟨50, 2400⟩, ⟨2450, 1600⟩] : List S57).length cL] rfl (by (try simp only [List.map_toArray, List.map_cons, List.map_nil]); first | done | rfl | (simp only [List.length_drop, List.length_take]; rfl)) ?_; ((with_reducible refine (slit_Trim.calls 40 5000 _ _ _ _ _ _ ?side1 ?side2 E3).mono ?_); (case side1 => (exact (by repeat (first | (with_reducible exact HL.out) | (with_reducible refine Kd.C_alloc ?_ _) | (with_reducible refine Kd.C_drewN ?_ _) | (with_reducible refine Kd.C_drew ?_) | exact HL.out)))); (case side2 => (exact hcL)); (rintro e w1 ⟨v1, rfl, ho0, hb⟩; refine ⟨_, rfl, ?_⟩; have n0_ := Aside0.mk (Kd.C_below HL.out (below_step (by repeat (first | (with_reducible first | exact Below.refl _ _ | apply below_alloc | apply pw_below_drewN | apply below_drew1) | exact Below.refl _ _)) hb)); have nb_ := Aside0.mk (below_step (by repeat (first | (with_reducible first | exact HB.out | apply below_alloc | apply pw_below_drewN | apply below_drew1) | exact HB.out)) hb); clear HB HL; have HB := nb_; clear nb_; have HL := n0_; clear n0_; clear hb; obtain ⟨AT, cT, eT⟩ := Kd.R_slice ho0; subst eT; have HT := Aside0.mk (Kd.R_reads' ho0).2.2; have hcT := (Kd.R_reads' ho0).2.1; clear ho0))))
  | ((with_reducible refine gate_callee (f := 31) rfl ?_); (refine goesL_ (some 29) rfl rfl Try.func31 (by kernel_rfl) rfl #[.int .i64 5000, .int .i64 1000, .slice AL ([⟨50, 2400⟩, ⟨2450, 1600⟩] : List S57).length cL, .agg #[.int .i64 300, .int .i64 200]] rfl (by (try simp only [List.map_toArray, List.map_cons, List.map_nil]); first | done | rfl | (simp only [List.length_drop, List.length_take]; rfl)) ?_; ((with_reducible refine (slit_Set.calls 40 5000 1000 _ _ _ 300 200 _ _ _ ?side1 ?side2 E4).mono ?_); (case side1 => (exact (by repeat (first | (with_reducible exact HL.out) | (with_reducible refine Kd.C_alloc ?_ _) | (with_reducible refine Kd.C_drewN ?_ _) | (with_reducible refine Kd.C_drew ?_) | exact HL.out)))); (case side2 => (exact hcL)); (rintro e w1 ⟨v1, rfl, ho0, hb⟩; refine ⟨_, rfl, ?_⟩; have n0_ := Aside0.mk (Kd.C_below HL.out (below_step (by repeat (first | (with_reducible first | exact Below.refl _ _ | apply below_alloc | apply pw_below_drewN | apply below_drew1) | exact Below.refl _ _)) hb)); have n1_ := Aside0.mk (Kd.C_below HT.out (below_step (by repeat (first | (with_reducible first | exact Below.refl _ _ | apply below_alloc | apply pw_below_drewN | apply below_drew1) | exact Below.refl _ _)) hb)); have nb_ := Aside0.mk (below_step (by repeat (first | (with_reducible first | exact HB.out | apply below_alloc | apply pw_below_drewN | apply below_drew1) | exact HB.out)) hb); clear HB HL HT; have HB := nb_; clear nb_; have HL := n0_; have HT := n1_; clear n0_ n1_; clear hb; obtain ⟨AC, cC, eC⟩ := Kd.N_slice ho0; subst eC; have HC := Aside0.mk (Kd.N_reads' ho0).2.2; clear ho0))))
  | ((with_reducible refine gate_dst (N := 50) rfl ?_); (try (refine gate_guard (by rfl) ?_; dsimp only)); refine Kd.R_lit k57 _ 57 ?hg (N := 50) ?hd (xs := ([⟨0, 60⟩, ⟨50, 20⟩] : List S57)) (inner := [.int .i64 0, .int .i64 60, .int .i64 50, .int .i64 20]) (ok := fun _ => True) (okp := fun _ => True) ?hr ?hp (fun _ hk => hk) trivial (Below.refl _ _) (Nat.le_refl _) (by simp) ?_; (case hd => rfl); (case hg => rfl); (case hr => first | (go_simp; done) | (go_simp; rfl)); (case hp => exact (Reps.c2 (show Kd.M k57 _ _ _ (⟨0, 60⟩ : S57) [.int .i64 0, .int .i64 60] from (k57_mkM _ _ _ (⟨0, 60⟩ : S57))) (Reps.c2 (show Kd.M k57 _ _ _ (⟨50, 20⟩ : S57) [.int .i64 50, .int .i64 20] from (k57_mkM _ _ _ (⟨50, 20⟩ : S57))) (Reps.none _ _)))); intro v1 w1 ho0 hb hg_ hnew_; clear hg_ hnew_; have n0_ := Aside0.mk (Kd.C_below HL.out (below_step (by repeat (first | (with_reducible first | exact Below.refl _ _ | apply below_alloc | apply pw_below_drewN | apply below_drew1) | exact Below.refl _ _)) hb)); have n1_ := Aside0.mk (Kd.C_below HT.out (below_step (by repeat (first | (with_reducible first | exact Below.refl _ _ | apply below_alloc | apply pw_below_drewN | apply below_drew1) | exact Below.refl _ _)) hb)); have n2_ := Aside0.mk (Kd.C_below HC.out (below_step (by repeat (first | (with_reducible first | exact Below.refl _ _ | apply below_alloc | apply pw_below_drewN | apply below_drew1) | exact Below.refl _ _)) hb)); have nb_ := Aside0.mk (below_step (by repeat (first | (with_reducible first | exact HB.out | apply below_alloc | apply pw_below_drewN | apply below_drew1) | exact HB.out)) hb); clear HB HL HT HC; have HB := nb_; clear nb_; have HL := n0_; have HT := n1_; have HC := n2_; clear n0_ n1_ n2_; clear hb; obtain ⟨AW, cW, eW⟩ := Kd.R_slice ho0; subst eW; have HW := Aside0.mk (Kd.R_reads' ho0).2.2; have hcW := (Kd.R_reads' ho0).2.1; clear ho0)
  | (go_at_call 14; ((with_reducible refine aw_args (args1 := #[.int .i64 100, .slice AW ([⟨0, 60⟩, ⟨50, 20⟩] : List S57).length cW]) rfl ?_); (with_reducible refine (slit_Check.calls 100 _ _ [⟨0, 60⟩, ⟨50, 20⟩] 12 _ ?side1 ?side2 E5).mono ?_); (case side1 => exact (by repeat (first | (with_reducible exact HW.out) | (with_reducible refine Kd.C_alloc ?_ _) | (with_reducible refine Kd.C_drewN ?_ _) | (with_reducible refine Kd.C_drew ?_) | exact HW.out))); (case side2 => exact hcW); rintro e w1 ⟨rfl, hb⟩; have n0_ := Aside0.mk (Kd.C_below HL.out (below_step (by repeat (first | (with_reducible first | exact Below.refl _ _ | apply below_alloc | apply pw_below_drewN | apply below_drew1) | exact Below.refl _ _)) hb)); have n1_ := Aside0.mk (Kd.C_below HT.out (below_step (by repeat (first | (with_reducible first | exact Below.refl _ _ | apply below_alloc | apply pw_below_drewN | apply below_drew1) | exact Below.refl _ _)) hb)); have n2_ := Aside0.mk (Kd.C_below HC.out (below_step (by repeat (first | (with_reducible first | exact Below.refl _ _ | apply below_alloc | apply pw_below_drewN | apply below_drew1) | exact Below.refl _ _)) hb)); have nb_ := Aside0.mk (below_step (by repeat (first | (with_reducible first | exact HB.out | apply below_alloc | apply pw_below_drewN | apply below_drew1) | exact HB.out)) hb); clear HB HL HT HC; have HB := nb_; clear nb_; have HL := n0_; have HT := n1_; have HC := n2_; clear n0_ n1_ n2_; clear hb; clear HW; obtain ⟨adp, Ap, cp, ep, xp0, xp1, xp2, xp3, hcp, hip⟩ := at_T47 HC.out 1 (by omega) (by rw [hcs]; omega); cases ep; rw [R1] at xp0 xp1 xp2 xp3 hcp hip; (try simp only [show (1 : Int).toNat = 1 from rfl, Nat.reduceMul, Nat.reduceEqDiff, Go.Addr.add, ↓reduceIte] at xp0 xp1 xp2 xp3); have Hp := Aside0.mk hip; clear hip))
  | ((with_reducible refine gate_callee (f := 24) rfl ?_); (refine goesL_ (some 58) rfl rfl Try.func24 (by kernel_rfl) rfl #[.agg #[.int .i64 2450, .int .i64 1600, .bool false, .slice Ap ([⟨699, 200, true⟩] : List S69).length cp], .int .i64 10, .int .i64 0] rfl (by (try simp only [List.map_toArray, List.map_cons, List.map_nil]); first | done | rfl | (simp only [List.length_drop, List.length_take]; rfl)) ?_; ((with_reducible refine (slit_Place.calls 40 2450 1600 false _ _ [⟨699, 200, true⟩] 10 0 _ _ _ _ ?side1 ?side2 E6).mono ?_); (case side1 => (exact (by repeat (first | (with_reducible exact Hp.out) | (with_reducible refine Kd.C_alloc ?_ _) | (with_reducible refine Kd.C_drewN ?_ _) | (with_reducible refine Kd.C_drew ?_) | exact Hp.out)))); (case side2 => (exact hcp)); (rintro e w1 ⟨rfl, hb⟩; refine ⟨_, rfl, ?_⟩; have n0_ := Aside0.mk (Kd.C_below HL.out (below_step (by repeat (first | (with_reducible first | exact Below.refl _ _ | apply below_alloc | apply pw_below_drewN | apply below_drew1) | exact Below.refl _ _)) hb)); have n1_ := Aside0.mk (Kd.C_below HT.out (below_step (by repeat (first | (with_reducible first | exact Below.refl _ _ | apply below_alloc | apply pw_below_drewN | apply below_drew1) | exact Below.refl _ _)) hb)); have n2_ := Aside0.mk (Kd.C_below HC.out (below_step (by repeat (first | (with_reducible first | exact Below.refl _ _ | apply below_alloc | apply pw_below_drewN | apply below_drew1) | exact Below.refl _ _)) hb)); have nb_ := Aside0.mk (below_step (by repeat (first | (with_reducible first | exact HB.out | apply below_alloc | apply pw_below_drewN | apply below_drew1) | exact HB.out)) hb); clear HB HL HT HC; have HB := nb_; clear nb_; have HL := n0_; have HT := n1_; have HC := n2_; clear n0_ n1_ n2_; clear hb; clear Hp xp0 xp1 xp2 xp3; obtain ⟨adq, Aq, cq, eq, xq0, xq1, xq2, xq3, hcq, hiq⟩ := at_T47 HC.out 1 (by omega) (by rw [hcs]; omega); cases eq; rw [R1] at xq0 xq1 xq2 xq3 hcq hiq; (try simp only [show (1 : Int).toNat = 1 from rfl, Nat.reduceMul, Nat.reduceEqDiff, Go.Addr.add, ↓reduceIte] at xq0 xq1 xq2 xq3); have Hq := Aside0.mk hiq; clear hiq))))
  | ((with_reducible refine gate_callee (f := 22) rfl ?_); (refine goesL_ (some 66) rfl rfl Try.func22 (by kernel_rfl) rfl #[.agg #[.int .i64 2450, .int .i64 1600, .bool false, .slice Aq ([⟨699, 200, true⟩] : List S69).length cq]] rfl (by (try simp only [List.map_toArray, List.map_cons, List.map_nil]); first | done | rfl | (simp only [List.length_drop, List.length_take]; rfl)) ?_; ((with_reducible refine (slit_Turned.calls 40 2450 1600 false _ _ [⟨699, 200, true⟩] _ _ _ _ _ _ ?side1 ?side2 E7).mono ?_); (case side1 => (exact (by repeat (first | (with_reducible exact Hq.out) | (with_reducible refine Kd.C_alloc ?_ _) | (with_reducible refine Kd.C_drewN ?_ _) | (with_reducible refine Kd.C_drew ?_) | exact Hq.out)))); (case side2 => (exact hcq)); (rintro e w1 ⟨v1, rfl, ho0, hb⟩; refine ⟨_, rfl, ?_⟩; have n0_ := Aside0.mk (Kd.C_below HL.out (below_step (by repeat (first | (with_reducible first | exact Below.refl _ _ | apply below_alloc | apply pw_below_drewN | apply below_drew1) | exact Below.refl _ _)) hb)); have n1_ := Aside0.mk (Kd.C_below HT.out (below_step (by repeat (first | (with_reducible first | exact Below.refl _ _ | apply below_alloc | apply pw_below_drewN | apply below_drew1) | exact Below.refl _ _)) hb)); have n2_ := Aside0.mk (Kd.C_below HC.out (below_step (by repeat (first | (with_reducible first | exact Below.refl _ _ | apply below_alloc | apply pw_below_drewN | apply below_drew1) | exact Below.refl _ _)) hb)); have nb_ := Aside0.mk (below_step (by repeat (first | (with_reducible first | exact HB.out | apply below_alloc | apply pw_below_drewN | apply below_drew1) | exact HB.out)) hb); clear HB HL HT HC; have HB := nb_; clear nb_; have HL := n0_; have HT := n1_; have HC := n2_; clear n0_ n1_ n2_; clear hb; clear Hq xq0 xq1 xq2 xq3; obtain ⟨AU, cU, eU⟩ := Kd.R_slice ho0; subst eU; have HU := Aside0.mk (Kd.R_reads' ho0).2.2; have hcU := (Kd.R_reads' ho0).2.1; clear ho0))))
  | (go_at_call 24; ((with_reducible refine aw_args (args1 := #[.agg #[.int .i64 2450, .int .i64 1600, .bool true, .slice AU ([⟨699, 200, true⟩] : List S69).length cU], .int .i64 10, .int .i64 0]) rfl ?_); (with_reducible refine (slit_Place.calls 40 2450 1600 true _ _ [⟨699, 200, true⟩] 10 0 _ _ _ _ ?side1 ?side2 E8).mono ?_); (case side1 => exact (by repeat (first | (with_reducible exact HU.out) | (with_reducible refine Kd.C_alloc ?_ _) | (with_reducible refine Kd.C_drewN ?_ _) | (with_reducible refine Kd.C_drew ?_) | exact HU.out))); (case side2 => exact hcU); rintro e w1 ⟨rfl, hb⟩; have n0_ := Aside0.mk (Kd.C_below HL.out (below_step (by repeat (first | (with_reducible first | exact Below.refl _ _ | apply below_alloc | apply pw_below_drewN | apply below_drew1) | exact Below.refl _ _)) hb)); have n1_ := Aside0.mk (Kd.C_below HT.out (below_step (by repeat (first | (with_reducible first | exact Below.refl _ _ | apply below_alloc | apply pw_below_drewN | apply below_drew1) | exact Below.refl _ _)) hb)); have n2_ := Aside0.mk (Kd.C_below HC.out (below_step (by repeat (first | (with_reducible first | exact Below.refl _ _ | apply below_alloc | apply pw_below_drewN | apply below_drew1) | exact Below.refl _ _)) hb)); have nb_ := Aside0.mk (below_step (by repeat (first | (with_reducible first | exact HB.out | apply below_alloc | apply pw_below_drewN | apply below_drew1) | exact HB.out)) hb); clear HB HL HT HC; have HB := nb_; clear nb_; have HL := n0_; have HT := n1_; have HC := n2_; clear n0_ n1_ n2_; clear hb; clear HU))
  | ((with_reducible refine gate_dst (N := 104) rfl ?_); (try (refine gate_guard (by rfl) ?_; dsimp only)); refine Kd.R_lit k57 _ 57 ?hg (N := 104) ?hd (xs := ([⟨50, 2400⟩, ⟨2450, 1600⟩] : List S57)) (inner := [.int .i64 50, .int .i64 2400, .int .i64 2450, .int .i64 1600]) (ok := fun _ => True) (okp := fun _ => True) ?hr ?hp (fun _ hk => hk) trivial (Below.refl _ _) (Nat.le_refl _) (by simp) ?_; (case hd => rfl); (case hg => rfl); (case hr => first | (go_simp; done) | (go_simp; rfl)); (case hp => exact (Reps.c2 (show Kd.M k57 _ _ _ (⟨50, 2400⟩ : S57) [.int .i64 50, .int .i64 2400] from (k57_mkM _ _ _ (⟨50, 2400⟩ : S57))) (Reps.c2 (show Kd.M k57 _ _ _ (⟨2450, 1600⟩ : S57) [.int .i64 2450, .int .i64 1600] from (k57_mkM _ _ _ (⟨2450, 1600⟩ : S57))) (Reps.none _ _)))); intro v1 w1 ho0 hb hg_ hnew_; clear hg_ hnew_; have n0_ := Aside0.mk (Kd.C_below HL.out (below_step (by repeat (first | (with_reducible first | exact Below.refl _ _ | apply below_alloc | apply pw_below_drewN | apply below_drew1) | exact Below.refl _ _)) hb)); have n1_ := Aside0.mk (Kd.C_below HT.out (below_step (by repeat (first | (with_reducible first | exact Below.refl _ _ | apply below_alloc | apply pw_below_drewN | apply below_drew1) | exact Below.refl _ _)) hb)); have n2_ := Aside0.mk (Kd.C_below HC.out (below_step (by repeat (first | (with_reducible first | exact Below.refl _ _ | apply below_alloc | apply pw_below_drewN | apply below_drew1) | exact Below.refl _ _)) hb)); have nb_ := Aside0.mk (below_step (by repeat (first | (with_reducible first | exact HB.out | apply below_alloc | apply pw_below_drewN | apply below_drew1) | exact HB.out)) hb); clear HB HL HT HC; have HB := nb_; clear nb_; have HL := n0_; have HT := n1_; have HC := n2_; clear n0_ n1_ n2_; clear hb; obtain ⟨AX, cX, eX⟩ := Kd.R_slice ho0; subst eX; have HX := Aside0.mk (Kd.R_reads' ho0).2.2; have hcX := (Kd.R_reads' ho0).2.1; clear ho0)
  | (go_at_call 16; ((with_reducible refine aw_args (args1 := #[.slice AL ([⟨50, 2400⟩, ⟨2450, 1600⟩] : List S57).length cL, .slice AX ([⟨50, 2400⟩, ⟨2450, 1600⟩] : List S57).length cX]) rfl ?_); (with_reducible refine (papermillref39_Same.calls 40 _ _ [⟨50, 2400⟩, ⟨2450, 1600⟩] _ _ [⟨50, 2400⟩, ⟨2450, 1600⟩] _ _ ?side1 ?side2 ?side3 ?side4 E9).mono ?_); (case side1 => exact (by repeat (first | (with_reducible exact HL.out) | (with_reducible refine Kd.C_alloc ?_ _) | (with_reducible refine Kd.C_drewN ?_ _) | (with_reducible refine Kd.C_drew ?_) | exact HL.out))); (case side2 => exact hcL); (case side3 => exact (by repeat (first | (with_reducible exact HX.out) | (with_reducible refine Kd.C_alloc ?_ _) | (with_reducible refine Kd.C_drewN ?_ _) | (with_reducible refine Kd.C_drew ?_) | exact HX.out))); (case side4 => exact hcX); rintro e w1 ⟨rfl, hb⟩; replace hb := hb.below; have n0_ := Aside0.mk (Kd.C_below HT.out (below_step (by repeat (first | (with_reducible first | exact Below.refl _ _ | apply below_alloc | apply pw_below_drewN | apply below_drew1) | exact Below.refl _ _)) hb)); have n1_ := Aside0.mk (Kd.C_below HC.out (below_step (by repeat (first | (with_reducible first | exact Below.refl _ _ | apply below_alloc | apply pw_below_drewN | apply below_drew1) | exact Below.refl _ _)) hb)); have nb_ := Aside0.mk (below_step (by repeat (first | (with_reducible first | exact HB.out | apply below_alloc | apply pw_below_drewN | apply below_drew1) | exact HB.out)) hb); clear HB HT HC; have HB := nb_; clear nb_; have HT := n0_; have HC := n1_; clear n0_ n1_; clear hb; clear HL HX))
  | (go_at_call 16; ((with_reducible refine aw_args (args1 := #[.slice AT ([⟨0, 50⟩, ⟨4050, 950⟩] : List S57).length cT, .slice (some ⟨w1.heap.size, 0, none⟩) ([⟨0, 50⟩, ⟨4050, 950⟩] : List S57).length 2]) rfl ?_); (with_reducible refine (papermillref39_Same.calls 40 _ _ [⟨0, 50⟩, ⟨4050, 950⟩] _ _ [⟨0, 50⟩, ⟨4050, 950⟩] _ _ ?side1 ?side2 ?side3 ?side4 E10).mono ?_); (case side1 => exact (by repeat (first | (with_reducible exact HT.out) | (with_reducible refine Kd.C_alloc ?_ _) | (with_reducible refine Kd.C_drewN ?_ _) | (with_reducible refine Kd.C_drew ?_) | exact HT.out))); (case side2 => exact hcT); (case side3 => exact aw_l57 _ _ _ _ _); (case side4 => exact Nat.le_refl _); rintro e w1 ⟨rfl, hb⟩; replace hb := hb.below; have n0_ := Aside0.mk (Kd.C_below HC.out (below_step (by repeat (first | (with_reducible first | exact Below.refl _ _ | apply below_alloc | apply pw_below_drewN | apply below_drew1) | exact Below.refl _ _)) hb)); have nb_ := Aside0.mk (below_step (by repeat (first | (with_reducible first | exact HB.out | apply below_alloc | apply pw_below_drewN | apply below_drew1) | exact HB.out)) hb); clear HB HC; have HB := nb_; clear nb_; have HC := n0_; clear n0_; clear hb; clear HT; obtain ⟨adr, Ar, cr, er, xr0, xr1, xr2, xr3, hcr, hir⟩ := at_T47 HC.out 0 (by omega) (by rw [hcs]; omega); cases er; rw [R0] at xr0 xr1 xr2 xr3 hcr hir; (try simp only [show (0 : Int).toNat = 0 from rfl, Nat.reduceMul, Nat.reduceEqDiff, Go.Addr.add, ↓reduceIte] at xr0 xr1 xr2 xr3); have Hr := Aside0.mk hir; clear hir))
  | (go_at_call 26; ((with_reducible refine aw_args (args1 := #[.agg #[.int .i64 50, .int .i64 2400, .bool false, .slice Ar ([⟨699, 200, true⟩] : List S69).length cr], .agg #[.int .i64 50, .int .i64 2400, .bool false, .slice (some ⟨w1.heap.size, 0, none⟩) ([⟨699, 200, true⟩] : List S69).length 1]]) rfl ?_); (with_reducible refine (papermillref39_Child.calls 40 50 2400 false _ _ [⟨699, 200, true⟩] 50 2400 false _ _ [⟨699, 200, true⟩] _ _ ?side1 ?side2 ?side3 ?side4 E11).mono ?_); (case side1 => exact (by repeat (first | (with_reducible exact Hr.out) | (with_reducible refine Kd.C_alloc ?_ _) | (with_reducible refine Kd.C_drewN ?_ _) | (with_reducible refine Kd.C_drew ?_) | exact Hr.out))); (case side2 => exact hcr); (case side3 => exact aw_l69 _ _ _ _); (case side4 => exact Nat.le_refl _); rintro e w1 ⟨rfl, hb⟩; have nb_ := Aside0.mk (below_step (by repeat (first | (with_reducible first | exact HB.out | apply below_alloc | apply pw_below_drewN | apply below_drew1) | exact HB.out)) hb); clear HB ; have HB := nb_; clear nb_; clear hb)))
 go_ret
 exact ⟨rfl, HB.out⟩


/-! ### papermillref39_Check: function 15 -/
mutual
def papermillref39_Check.j0 : Nat → Int → List (S57) → Bool → Option (Int)
 | 0, _, _, _ => none
 | k + 1, x0, x1, x12 => if x12 = true then (some 1) else (if (x1.length : Int) > 12 then (some 8) else (papermillref39_Check.l0 k x0 x1 0))
def papermillref39_Check.l0 : Nat → Int → List (S57) → Int → Option (Int)
 | 0, _, _, _ => none
 | k + 1, x0, x1, x5 => if x5 < (x1.length : Int) then (if 0 ≤ x5 then (if ((rd_T57 x1 x5).f0) < 0 then (some 20) else (if ((rd_T57 x1 x5).f1) < 1 then (some 20) else (if ((rd_T57 x1 x5).f0) > x0 then (some 20) else (if ((rd_T57 x1 x5).f1) > (wrap64 (x0 - ((rd_T57 x1 x5).f0))) then (some 20) else (papermillref39_Check.l0 k x0 x1 (wrap64 (x5 + 1))))))) else (none)) else (papermillref39_Check.l1 k x1 1)
def papermillref39_Check.l1 : Nat → List (S57) → Int → Option (Int)
 | 0, _, _ => none
 | k + 1, x1, x6 => if x6 < (x1.length : Int) then (if 0 ≤ x6 then (if 0 ≤ (wrap64 (x6 - 1)) then (if (wrap64 (x6 - 1)) < (x1.length : Int) then (if ((rd_T57 x1 x6).f0) < (wrap64 (((rd_T57 x1 (wrap64 (x6 - 1))).f0) + ((rd_T57 x1 (wrap64 (x6 - 1))).f1))) then (some 12) else (papermillref39_Check.l1 k x1 (wrap64 (x6 + 1)))) else (none)) else (none)) else (none)) else (some 0)
end
def papermillref39_Check.f (k : Nat) (a0 : Int) (l1 : List (S57)) : Option (Int) := if a0 < 1 then (papermillref39_Check.j0 k a0 l1 true) else (papermillref39_Check.j0 k a0 l1 (decide (a0 > 12000)))
theorem papermillref39_Check.mono_l : ∀ k, (∀ y0 y1 y2, LeO (papermillref39_Check.j0 k y0 y1 y2) (papermillref39_Check.j0 (k + 1) y0 y1 y2)) ∧ (∀ y0 y1 y2, LeO (papermillref39_Check.l0 k y0 y1 y2) (papermillref39_Check.l0 (k + 1) y0 y1 y2)) ∧ (∀ y0 y1, LeO (papermillref39_Check.l1 k y0 y1) (papermillref39_Check.l1 (k + 1) y0 y1))
 | 0 => ⟨fun _ _ _ r h => by simp [papermillref39_Check.j0] at h, fun _ _ _ r h => by simp [papermillref39_Check.l0] at h, fun _ _ r h => by simp [papermillref39_Check.l1] at h⟩
 | k + 1 => by
  obtain ⟨ih0, ih1, ih2⟩ := papermillref39_Check.mono_l k
  refine ⟨?_, ?_, ?_⟩
  ·intro y0 y1 y2
   unfold papermillref39_Check.j0
   repeat' first
   | (with_reducible exact ih0 _ _ _)
   | (with_reducible exact ih1 _ _ _)
   | (with_reducible exact ih2 _ _)
   | (with_reducible exact LeO.refl _)
   | (with_reducible exact LeO.none _)
   | (with_reducible refine LeO.ite ?_ ?_)
   | (with_reducible refine LeO.bind ?_ (fun _ => ?_))
   | exact ih0 _ _ _
   | exact ih1 _ _ _
   | exact ih2 _ _
   | exact LeO.none _
   | refine LeO.ite ?_ ?_
   | refine LeO.bind ?_ (fun _ => ?_)
  ·intro y0 y1 y2
   unfold papermillref39_Check.l0
   repeat' first
   | (with_reducible exact ih0 _ _ _)
   | (with_reducible exact ih1 _ _ _)
   | (with_reducible exact ih2 _ _)
   | (with_reducible exact LeO.refl _)
   | (with_reducible exact LeO.none _)
   | (with_reducible refine LeO.ite ?_ ?_)
   | (with_reducible refine LeO.bind ?_ (fun _ => ?_))
   | exact ih0 _ _ _
   | exact ih1 _ _ _
   | exact ih2 _ _
   | exact LeO.none _
   | refine LeO.ite ?_ ?_
   | refine LeO.bind ?_ (fun _ => ?_)
  ·intro y0 y1
   unfold papermillref39_Check.l1
   repeat' first
   | (with_reducible exact ih0 _ _ _)
   | (with_reducible exact ih1 _ _ _)
   | (with_reducible exact ih2 _ _)
   | (with_reducible exact LeO.refl _)
   | (with_reducible exact LeO.none _)
   | (with_reducible refine LeO.ite ?_ ?_)
   | (with_reducible refine LeO.bind ?_ (fun _ => ?_))
   | exact ih0 _ _ _
   | exact ih1 _ _ _
   | exact ih2 _ _
   | exact LeO.none _
   | refine LeO.ite ?_ ?_
   | refine LeO.bind ?_ (fun _ => ?_)
theorem papermillref39_Check.mono : ∀ a0 a1 k, LeO (papermillref39_Check.f k a0 a1) (papermillref39_Check.f (k + 1) a0 a1) := by
 intro a0 a1 k
 obtain ⟨ih0, ih1, ih2⟩ := papermillref39_Check.mono_l k
 unfold papermillref39_Check.f
 repeat' first
   | (with_reducible exact ih0 _ _ _)
   | (with_reducible exact ih1 _ _ _)
   | (with_reducible exact ih2 _ _)
   | (with_reducible exact LeO.refl _)
   | (with_reducible exact LeO.none _)
   | (with_reducible refine LeO.ite ?_ ?_)
   | (with_reducible refine LeO.bind ?_ (fun _ => ?_))
   | exact ih0 _ _ _
   | exact ih1 _ _ _
   | exact ih2 _ _
   | exact LeO.none _
   | refine LeO.ite ?_ ?_
   | refine LeO.bind ?_ (fun _ => ?_)
set_option maxHeartbeats 8000000 in
set_option maxRecDepth 100000 in
theorem papermillref39_Check.calls (k : Nat) (a0 : Int) (A1 : Option Addr) (c1 : Nat) (l1 : List (S57)) (r : Int) (w : World) (hr1 : Kd.C k57 w A1 l1.length l1) (hc1 : l1.length ≤ c1) (h : papermillref39_Check.f k a0 l1 = some r) :
  Calls Try.prog 15 #[.int .i64 a0, .slice A1 l1.length c1] w fun e w' => e = .returned (.int .i64 r) ∧ Drawn0 w w' := by
 have HR1 := Aside0.mk hr1
 have HC1 := Aside0.mk hc1
 clear hr1 hc1
 have H : (if a0 < 1 then (papermillref39_Check.j0 k a0 l1 true) else (papermillref39_Check.j0 k a0 l1 (decide (a0 > 12000)))) = some r := h
 clear h
 have HC3 := Aside0.mk H
 clear H
 go_enter Try.func15, Try.ntmps15
 go_upto_region 1 with (fail)
 repeat (go_quiet (fail); go_upto_region 1 with (fail))
 go_cut [12] (fun v12 wc => ∃ (kq : Nat) (x12_2 : Bool), v12 = .bool x12_2 ∧ Aside0 (papermillref39_Check.j0 kq a0 l1 x12_2 = some r) ∧ Aside0 (kq ≤ k) ∧ Drawn0 w wc)
 case first =>
  have H := HC3.out
  clear HC3
  by_cases c4 : a0 < 1
  ·rw [if_pos c4] at H
   have c4b0 : decide (a0 < 1) = true := decide_eq_true c4
   clear c4
   (first | rw [c4b0] | (simp only [i64_w, i32_w]; rw [c4b0]) | skip)
   have H' := Aside0.mk H
   clear H
   go_wp2
   repeat (go_quiet (fail); try go_wp2)
   go_meet
   case rel => exact ⟨_, (true), (by first | rfl | (simp; done) | (simp [*]; done)), H', ⟨by first | omega | exact Nat.le_refl _⟩, by repeat (first | exact Drawn0.refl _ | apply Drawn0.step)⟩
  ·rw [if_neg c4] at H
   have c4b0 : decide (a0 < 1) = false := decide_eq_false c4
   clear c4
   (first | rw [c4b0] | (simp only [i64_w, i32_w]; rw [c4b0]) | skip)
   have H' := Aside0.mk H
   clear H
   go_wp2
   repeat (go_quiet (fail); try go_wp2)
   go_meet
   case rel => exact ⟨_, (decide (a0 > 12000)), (by first | rfl | (simp; done) | (simp [*]; done)), H', ⟨by first | omega | exact Nat.le_refl _⟩, by repeat (first | exact Drawn0.refl _ | apply Drawn0.step)⟩
 case rest =>
  clear HC3
  try clear c1
  try clear p2
  try clear c4
  try clear c4b0
  obtain ⟨kq, x12_2, rfl, HA, HJ2, ⟨mc2, rfl⟩⟩ := hcut
  cases kq with
  | zero => exact absurd HA.out (by simp [papermillref39_Check.j0])
  | succ kj2 =>
   have H := HA.out
   clear HA
   simp only [papermillref39_Check.j0] at H
   by_cases c5 : x12_2 = true
   ·subst c5
    have H1 : (some 1) = some r := by rw [if_pos rfl] at H; exact H
    clear H
    have H := H1
    clear H1
    obtain rfl := Option.some.inj H
    go_wp2
    repeat (go_quiet (fail); try go_wp2)
    go_ret
    exact ⟨by first | rfl | (simp; done) | (simp [*]; done), by repeat (first | exact Drawn0.refl _ | apply Drawn0.step)⟩
   ·replace c5 := Bool.eq_false_iff.mpr c5
    subst c5
    have H1 : (if (l1.length : Int) > 12 then (some 8) else (papermillref39_Check.l0 kj2 a0 l1 0)) = some r := by rw [if_neg (show ¬ (false = true) by decide)] at H; exact H
    clear H
    have H := H1
    clear H1
    by_cases c6 : (l1.length : Int) > 12
    ·rw [if_pos c6] at H
     have c6b0 : decide (12 < (l1.length : Int)) = true := decide_eq_true c6
     have c6b1 : decide (12 < l1.length) = true := decide_eq_true (by omega)
     clear c6
     obtain rfl := Option.some.inj H
     go_wp2
     repeat (go_quiet (fail); try go_wp2)
     go_ret
     exact ⟨by first | rfl | (simp; done) | (simp [*]; done), by repeat (first | exact Drawn0.refl _ | apply Drawn0.step)⟩
    ·rw [if_neg c6] at H
     have c6b0 : decide (12 < (l1.length : Int)) = false := decide_eq_false c6
     have c6b1 : decide (12 < l1.length) = false := decide_eq_false (by omega)
     clear c6
     have H' := Aside0.mk H
     clear H
     go_wp2
     repeat (go_quiet (fail); try go_wp2)
     go_loopg [5] kj2 (fun kq v5 w' => ∃ (x5_2 : Int), v5 = .int .i64 x5_2 ∧ Aside0 (papermillref39_Check.l0 kq a0 l1 x5_2 = some r) ∧ Aside0 (kq ≤ kj2) ∧ Drawn0 w w')
     case atStart => exact ⟨(0), (by first | rfl | (simp; done) | (simp [*]; done)), H', ⟨Nat.le_refl _⟩, by repeat (first | exact Drawn0.refl _ | apply Drawn0.step)⟩
     case round =>
      clear H'
      try clear c1
      try clear c2
      try clear p2
      try clear c4
      try clear c4b0
      try clear c5
      try clear c6
      try clear c6b0
      try clear c6b1
      try clear p2
      obtain ⟨x5_2, rfl, HA, HK2, ⟨m2, rfl⟩⟩ := hrel
      cases gk with
      | zero => exact absurd HA.out (by simp [papermillref39_Check.l0])
      | succ k2 =>
       have H := HA.out
       clear HA
       simp only [papermillref39_Check.l0] at H
       by_cases c7 : x5_2 < (l1.length : Int)
       ·rw [if_pos c7] at H
        have c7b0 : decide (x5_2 < (l1.length : Int)) = true := decide_eq_true c7
        clear c7
        by_cases c8 : 0 ≤ x5_2
        ·rw [if_pos c8] at H
         have c8b0 : decide (0 ≤ x5_2) = true := decide_eq_true c8
         clear c8
         by_cases c9 : ((rd_T57 l1 x5_2).f0) < 0
         ·rw [if_pos c9] at H
          have c9b0 : decide (((rd_T57 l1 x5_2).f0) < 0) = true := decide_eq_true c9
          clear c9
          obtain rfl := Option.some.inj H
          have p205 : 0 ≤ (x5_2 : Int) := of_decide_eq_true (by first | (with_reducible assumption) | assumption)
          have q205 : x5_2 < (l1.length : Int) := of_decide_eq_true (by first | (with_reducible assumption) | assumption)
          obtain ⟨ad205, e205, hx205_0, hx205_1⟩ := at_T57 HR1.out x5_2 p205 q205
          cases e205
          replace p205 := eq_true p205
          replace q205 := eq_true q205
          go_wp2
          repeat (go_quiet (fail); try go_wp2)
          go_ret
          exact ⟨by first | rfl | (simp; done) | (simp [*]; done), by repeat (first | exact Drawn0.refl _ | apply Drawn0.step)⟩
         ·rw [if_neg c9] at H
          have c9b0 : decide (((rd_T57 l1 x5_2).f0) < 0) = false := decide_eq_false c9
          clear c9
          by_cases c10 : ((rd_T57 l1 x5_2).f1) < 1
          ·rw [if_pos c10] at H
           have c10b0 : decide (((rd_T57 l1 x5_2).f1) < 1) = true := decide_eq_true c10
           clear c10
           obtain rfl := Option.some.inj H
           have p205 : 0 ≤ (x5_2 : Int) := of_decide_eq_true (by first | (with_reducible assumption) | assumption)
           have q205 : x5_2 < (l1.length : Int) := of_decide_eq_true (by first | (with_reducible assumption) | assumption)
           obtain ⟨ad205, e205, hx205_0, hx205_1⟩ := at_T57 HR1.out x5_2 p205 q205
           cases e205
           replace p205 := eq_true p205
           replace q205 := eq_true q205
           have p206 : 0 ≤ (x5_2 : Int) := of_decide_eq_true (by first | (with_reducible assumption) | assumption)
           have q206 : x5_2 < (l1.length : Int) := of_decide_eq_true (by first | (with_reducible assumption) | assumption)
           obtain ⟨ad206, e206, hx206_0, hx206_1⟩ := at_T57 HR1.out x5_2 p206 q206
           obtain rfl : ad205 = ad206 := (by injection e206)
           replace p206 := eq_true p206
           replace q206 := eq_true q206
           go_wp2
           repeat (go_quiet (fail); try go_wp2)
           go_ret
           exact ⟨by first | rfl | (simp; done) | (simp [*]; done), by repeat (first | exact Drawn0.refl _ | apply Drawn0.step)⟩
          ·rw [if_neg c10] at H
           have c10b0 : decide (((rd_T57 l1 x5_2).f1) < 1) = false := decide_eq_false c10
           clear c10
           by_cases c11 : ((rd_T57 l1 x5_2).f0) > a0
           ·rw [if_pos c11] at H
            have c11b0 : decide (a0 < ((rd_T57 l1 x5_2).f0)) = true := decide_eq_true c11
            clear c11
            obtain rfl := Option.some.inj H
            have p205 : 0 ≤ (x5_2 : Int) := of_decide_eq_true (by first | (with_reducible assumption) | assumption)
            have q205 : x5_2 < (l1.length : Int) := of_decide_eq_true (by first | (with_reducible assumption) | assumption)
            obtain ⟨ad205, e205, hx205_0, hx205_1⟩ := at_T57 HR1.out x5_2 p205 q205
            cases e205
            replace p205 := eq_true p205
            replace q205 := eq_true q205
            have p206 : 0 ≤ (x5_2 : Int) := of_decide_eq_true (by first | (with_reducible assumption) | assumption)
            have q206 : x5_2 < (l1.length : Int) := of_decide_eq_true (by first | (with_reducible assumption) | assumption)
            obtain ⟨ad206, e206, hx206_0, hx206_1⟩ := at_T57 HR1.out x5_2 p206 q206
            obtain rfl : ad205 = ad206 := (by injection e206)
            replace p206 := eq_true p206
            replace q206 := eq_true q206
            have p207 : 0 ≤ (x5_2 : Int) := of_decide_eq_true (by first | (with_reducible assumption) | assumption)
            have q207 : x5_2 < (l1.length : Int) := of_decide_eq_true (by first | (with_reducible assumption) | assumption)
            obtain ⟨ad207, e207, hx207_0, hx207_1⟩ := at_T57 HR1.out x5_2 p207 q207
            obtain rfl : ad205 = ad207 := (by injection e207)
            replace p207 := eq_true p207
            replace q207 := eq_true q207
            go_wp2
            repeat (go_quiet (fail); try go_wp2)
            go_ret
            exact ⟨by first | rfl | (simp; done) | (simp [*]; done), by repeat (first | exact Drawn0.refl _ | apply Drawn0.step)⟩
           ·rw [if_neg c11] at H
            have c11b0 : decide (a0 < ((rd_T57 l1 x5_2).f0)) = false := decide_eq_false c11
            clear c11
            by_cases c12 : ((rd_T57 l1 x5_2).f1) > (wrap64 (a0 - ((rd_T57 l1 x5_2).f0)))
            ·rw [if_pos c12] at H
             have c12b0 : decide ((wrap64 (a0 - ((rd_T57 l1 x5_2).f0))) < ((rd_T57 l1 x5_2).f1)) = true := decide_eq_true c12
             clear c12
             obtain rfl := Option.some.inj H
             have p205 : 0 ≤ (x5_2 : Int) := of_decide_eq_true (by first | (with_reducible assumption) | assumption)
             have q205 : x5_2 < (l1.length : Int) := of_decide_eq_true (by first | (with_reducible assumption) | assumption)
             obtain ⟨ad205, e205, hx205_0, hx205_1⟩ := at_T57 HR1.out x5_2 p205 q205
             cases e205
             replace p205 := eq_true p205
             replace q205 := eq_true q205
             have p206 : 0 ≤ (x5_2 : Int) := of_decide_eq_true (by first | (with_reducible assumption) | assumption)
             have q206 : x5_2 < (l1.length : Int) := of_decide_eq_true (by first | (with_reducible assumption) | assumption)
             obtain ⟨ad206, e206, hx206_0, hx206_1⟩ := at_T57 HR1.out x5_2 p206 q206
             obtain rfl : ad205 = ad206 := (by injection e206)
             replace p206 := eq_true p206
             replace q206 := eq_true q206
             have p207 : 0 ≤ (x5_2 : Int) := of_decide_eq_true (by first | (with_reducible assumption) | assumption)
             have q207 : x5_2 < (l1.length : Int) := of_decide_eq_true (by first | (with_reducible assumption) | assumption)
             obtain ⟨ad207, e207, hx207_0, hx207_1⟩ := at_T57 HR1.out x5_2 p207 q207
             obtain rfl : ad205 = ad207 := (by injection e207)
             replace p207 := eq_true p207
             replace q207 := eq_true q207
             have p208 : 0 ≤ (x5_2 : Int) := of_decide_eq_true (by first | (with_reducible assumption) | assumption)
             have q208 : x5_2 < (l1.length : Int) := of_decide_eq_true (by first | (with_reducible assumption) | assumption)
             obtain ⟨ad208, e208, hx208_0, hx208_1⟩ := at_T57 HR1.out x5_2 p208 q208
             obtain rfl : ad205 = ad208 := (by injection e208)
             replace p208 := eq_true p208
             replace q208 := eq_true q208
             have p209 : 0 ≤ (x5_2 : Int) := of_decide_eq_true (by first | (with_reducible assumption) | assumption)
             have q209 : x5_2 < (l1.length : Int) := of_decide_eq_true (by first | (with_reducible assumption) | assumption)
             obtain ⟨ad209, e209, hx209_0, hx209_1⟩ := at_T57 HR1.out x5_2 p209 q209
             obtain rfl : ad205 = ad209 := (by injection e209)
             replace p209 := eq_true p209
             replace q209 := eq_true q209
             go_wp2
             repeat (go_quiet (fail); try go_wp2)
             go_ret
             exact ⟨by first | rfl | (simp; done) | (simp [*]; done), by repeat (first | exact Drawn0.refl _ | apply Drawn0.step)⟩
            ·rw [if_neg c12] at H
             have c12b0 : decide ((wrap64 (a0 - ((rd_T57 l1 x5_2).f0))) < ((rd_T57 l1 x5_2).f1)) = false := decide_eq_false c12
             clear c12
             have H' := Aside0.mk H
             clear H
             have p205 : 0 ≤ (x5_2 : Int) := of_decide_eq_true (by first | (with_reducible assumption) | assumption)
             have q205 : x5_2 < (l1.length : Int) := of_decide_eq_true (by first | (with_reducible assumption) | assumption)
             obtain ⟨ad205, e205, hx205_0, hx205_1⟩ := at_T57 HR1.out x5_2 p205 q205
             cases e205
             replace p205 := eq_true p205
             replace q205 := eq_true q205
             have p206 : 0 ≤ (x5_2 : Int) := of_decide_eq_true (by first | (with_reducible assumption) | assumption)
             have q206 : x5_2 < (l1.length : Int) := of_decide_eq_true (by first | (with_reducible assumption) | assumption)
             obtain ⟨ad206, e206, hx206_0, hx206_1⟩ := at_T57 HR1.out x5_2 p206 q206
             obtain rfl : ad205 = ad206 := (by injection e206)
             replace p206 := eq_true p206
             replace q206 := eq_true q206
             have p207 : 0 ≤ (x5_2 : Int) := of_decide_eq_true (by first | (with_reducible assumption) | assumption)
             have q207 : x5_2 < (l1.length : Int) := of_decide_eq_true (by first | (with_reducible assumption) | assumption)
             obtain ⟨ad207, e207, hx207_0, hx207_1⟩ := at_T57 HR1.out x5_2 p207 q207
             obtain rfl : ad205 = ad207 := (by injection e207)
             replace p207 := eq_true p207
             replace q207 := eq_true q207
             have p208 : 0 ≤ (x5_2 : Int) := of_decide_eq_true (by first | (with_reducible assumption) | assumption)
             have q208 : x5_2 < (l1.length : Int) := of_decide_eq_true (by first | (with_reducible assumption) | assumption)
             obtain ⟨ad208, e208, hx208_0, hx208_1⟩ := at_T57 HR1.out x5_2 p208 q208
             obtain rfl : ad205 = ad208 := (by injection e208)
             replace p208 := eq_true p208
             replace q208 := eq_true q208
             have p209 : 0 ≤ (x5_2 : Int) := of_decide_eq_true (by first | (with_reducible assumption) | assumption)
             have q209 : x5_2 < (l1.length : Int) := of_decide_eq_true (by first | (with_reducible assumption) | assumption)
             obtain ⟨ad209, e209, hx209_0, hx209_1⟩ := at_T57 HR1.out x5_2 p209 q209
             obtain rfl : ad205 = ad209 := (by injection e209)
             replace p209 := eq_true p209
             replace q209 := eq_true q209
             go_wp2
             repeat (go_quiet (fail); try go_wp2)
             go_roundg k2
             case measure => have := HJ2.out; have := HK2.out; omega
             case rel => exact ⟨(wrap64 (x5_2 + 1)), (by first | rfl | (simp; done) | (simp [*]; done)), H', ⟨by have := HJ2.out; have := HK2.out; omega⟩, by repeat (first | exact Drawn0.refl _ | apply Drawn0.step)⟩
        ·rw [if_neg c8] at H
         exact absurd H (by simp)
       ·rw [if_neg c7] at H
        have c7b0 : decide (x5_2 < (l1.length : Int)) = false := decide_eq_false c7
        clear c7
        have H' := Aside0.mk H
        clear H
        go_wp2
        repeat (go_quiet (fail); try go_wp2)
        go_loopg [6] k2 (fun kq v6 w' => ∃ (x6_3 : Int), v6 = .int .i64 x6_3 ∧ Aside0 (papermillref39_Check.l1 kq l1 x6_3 = some r) ∧ Aside0 (kq ≤ k2) ∧ Drawn0 w w')
        case atStart => exact ⟨(1), (by first | rfl | (simp; done) | (simp [*]; done)), H', ⟨Nat.le_refl _⟩, by repeat (first | exact Drawn0.refl _ | apply Drawn0.step)⟩
        case round =>
         clear H'
         try clear c1
         try clear c2
         try clear p2
         try clear q2
         try clear hx2
         try clear c4
         try clear c4b0
         try clear c5
         try clear c6
         try clear c6b0
         try clear c6b1
         try clear p6
         try clear c7
         try clear c7b0
         try clear c8
         try clear c8b0
         try clear c9
         try clear c9b0
         try clear c10
         try clear c10b0
         try clear c11
         try clear c11b0
         try clear c12
         try clear c12b0
         try clear hx205_0
         try clear hx205_1
         try clear hx206_0
         try clear hx206_1
         try clear hx207_0
         try clear hx207_1
         try clear hx208_0
         try clear hx208_1
         try clear hx209_0
         try clear hx209_1
         try clear p2
         try clear p205
         try clear p206
         try clear p207
         try clear p208
         try clear p209
         try clear q205
         try clear q206
         try clear q207
         try clear q208
         try clear q209
         obtain ⟨x6_3, rfl, HA, HK3, ⟨m3, rfl⟩⟩ := hrel
         cases gk with
         | zero => exact absurd HA.out (by simp [papermillref39_Check.l1])
         | succ k3 =>
          have H := HA.out
          clear HA
          simp only [papermillref39_Check.l1] at H
          by_cases c13 : x6_3 < (l1.length : Int)
          ·rw [if_pos c13] at H
           have c13b0 : decide (x6_3 < (l1.length : Int)) = true := decide_eq_true c13
           clear c13
           by_cases c14 : 0 ≤ x6_3
           ·rw [if_pos c14] at H
            have c14b0 : decide (0 ≤ x6_3) = true := decide_eq_true c14
            clear c14
            obtain ⟨ji15, hji15⟩ : ∃ j_ : Int, (wrap64 (x6_3 - 1)) = j_ := ⟨_, rfl⟩
            replace H : (if 0 ≤ (ji15) then (if (ji15) < (l1.length : Int) then (if ((rd_T57 l1 x6_3).f0) < (wrap64 (((rd_T57 l1 (ji15)).f0) + ((rd_T57 l1 (ji15)).f1))) then (some 12) else (papermillref39_Check.l1 k3 l1 (wrap64 (x6_3 + 1)))) else (none)) else (none)) = some r := by first | (rw [hji15] at H; exact H) | (simp only [hji15] at H ⊢; exact H)
            have hji15w : (IntKind.i64.wrap (x6_3 - 1)) = ji15 := (i64_w _).trans hji15
            by_cases c16 : 0 ≤ (ji15)
            ·rw [if_pos c16] at H
             have c16b0 : decide (0 ≤ (ji15)) = true := decide_eq_true c16
             clear c16
             by_cases c17 : (ji15) < (l1.length : Int)
             ·rw [if_pos c17] at H
              have c17b0 : decide ((ji15) < (l1.length : Int)) = true := decide_eq_true c17
              clear c17
              by_cases c18 : ((rd_T57 l1 x6_3).f0) < (wrap64 (((rd_T57 l1 (ji15)).f0) + ((rd_T57 l1 (ji15)).f1)))
              ·rw [if_pos c18] at H
               have c18b0 : decide (((rd_T57 l1 x6_3).f0) < (wrap64 (((rd_T57 l1 (ji15)).f0) + ((rd_T57 l1 (ji15)).f1)))) = true := decide_eq_true c18
               clear c18
               obtain rfl := Option.some.inj H
               have p210 : 0 ≤ (x6_3 : Int) := of_decide_eq_true (by first | (with_reducible assumption) | assumption)
               have q210 : x6_3 < (l1.length : Int) := of_decide_eq_true (by first | (with_reducible assumption) | assumption)
               obtain ⟨ad210, e210, hx210_0, hx210_1⟩ := at_T57 HR1.out x6_3 p210 q210
               cases e210
               replace p210 := eq_true p210
               replace q210 := eq_true q210
               have p211 : 0 ≤ ((ji15) : Int) := of_decide_eq_true (by first | (with_reducible assumption) | assumption)
               have q211 : (ji15) < (l1.length : Int) := of_decide_eq_true (by first | (with_reducible assumption) | assumption)
               obtain ⟨ad211, e211, hx211_0, hx211_1⟩ := at_T57 HR1.out (ji15) p211 q211
               obtain rfl : ad210 = ad211 := (by injection e211)
               replace p211 := eq_true p211
               replace q211 := eq_true q211
               have p212 : 0 ≤ ((ji15) : Int) := of_decide_eq_true (by first | (with_reducible assumption) | assumption)
               have q212 : (ji15) < (l1.length : Int) := of_decide_eq_true (by first | (with_reducible assumption) | assumption)
               obtain ⟨ad212, e212, hx212_0, hx212_1⟩ := at_T57 HR1.out (ji15) p212 q212
               obtain rfl : ad210 = ad212 := (by injection e212)
               replace p212 := eq_true p212
               replace q212 := eq_true q212
               go_wp2
               repeat (go_quiet (fail); try go_wp2)
               go_ret
               exact ⟨by first | rfl | (simp; done) | (simp only [← hji15] <;> (first | rfl | simp)) | (simp [*]; done), by repeat (first | exact Drawn0.refl _ | apply Drawn0.step)⟩
              ·rw [if_neg c18] at H
               have c18b0 : decide (((rd_T57 l1 x6_3).f0) < (wrap64 (((rd_T57 l1 (ji15)).f0) + ((rd_T57 l1 (ji15)).f1)))) = false := decide_eq_false c18
               clear c18
               have H' := Aside0.mk H
               clear H
               have p210 : 0 ≤ (x6_3 : Int) := of_decide_eq_true (by first | (with_reducible assumption) | assumption)
               have q210 : x6_3 < (l1.length : Int) := of_decide_eq_true (by first | (with_reducible assumption) | assumption)
               obtain ⟨ad210, e210, hx210_0, hx210_1⟩ := at_T57 HR1.out x6_3 p210 q210
               cases e210
               replace p210 := eq_true p210
               replace q210 := eq_true q210
               have p211 : 0 ≤ ((ji15) : Int) := of_decide_eq_true (by first | (with_reducible assumption) | assumption)
               have q211 : (ji15) < (l1.length : Int) := of_decide_eq_true (by first | (with_reducible assumption) | assumption)
               obtain ⟨ad211, e211, hx211_0, hx211_1⟩ := at_T57 HR1.out (ji15) p211 q211
               obtain rfl : ad210 = ad211 := (by injection e211)
               replace p211 := eq_true p211
               replace q211 := eq_true q211
               have p212 : 0 ≤ ((ji15) : Int) := of_decide_eq_true (by first | (with_reducible assumption) | assumption)
               have q212 : (ji15) < (l1.length : Int) := of_decide_eq_true (by first | (with_reducible assumption) | assumption)
               obtain ⟨ad212, e212, hx212_0, hx212_1⟩ := at_T57 HR1.out (ji15) p212 q212
               obtain rfl : ad210 = ad212 := (by injection e212)
               replace p212 := eq_true p212
               replace q212 := eq_true q212
               go_wp2
               repeat (go_quiet (fail); try go_wp2)
               go_roundg k3
               case measure => have := HJ2.out; have := HK2.out; have := HK3.out; omega
               case rel => exact ⟨(wrap64 (x6_3 + 1)), (by first | rfl | (simp; done) | (simp [*]; done)), H', ⟨by have := HJ2.out; have := HK2.out; have := HK3.out; omega⟩, by repeat (first | exact Drawn0.refl _ | apply Drawn0.step)⟩
             ·rw [if_neg c17] at H
              exact absurd H (by simp)
            ·rw [if_neg c16] at H
             exact absurd H (by simp)
           ·rw [if_neg c14] at H
            exact absurd H (by simp)
          ·rw [if_neg c13] at H
           have c13b0 : decide (x6_3 < (l1.length : Int)) = false := decide_eq_false c13
           clear c13
           obtain rfl := Option.some.inj H
           go_wp2
           repeat (go_quiet (fail); try go_wp2)
           go_ret
           exact ⟨by first | rfl | (simp; done) | (simp [*]; done), by repeat (first | exact Drawn0.refl _ | apply Drawn0.step)⟩

end Go.Proofs.Ytocnlpnlngnbnaa.P39
