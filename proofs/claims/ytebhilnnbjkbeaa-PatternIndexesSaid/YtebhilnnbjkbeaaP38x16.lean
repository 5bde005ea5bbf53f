-- Made by wip/tools/gprint.py of this session, a driver over the kit's print program with given functions.
import Derived.Test.YtebhilnnbjkbeaaP38x0
import Derived.Test.YtebhilnnbjkbeaaP38x1
import Derived.Test.YtebhilnnbjkbeaaP38x4
import Derived.Test.YtebhilnnbjkbeaaP38x11
namespace Go.Proofs.Ytebhilnnbjkbeaa.P38
open Go.RowKit Go.Proofs.YtebhilnnbjkbeaaW.PrintWords Go.Proofs.YtebhilnnbjkbeaaW.PrintLast Go.Proofs.YtebhilnnbjkbeaaW.PrintMore
attribute [local go_sem] max2_int min2_int max_two min_two max_three min_three max_four min_four   -- for this text's walks alone
set_option linter.unusedVariables false
set_option linter.unusedSimpArgs false

/-! ### pattern_Index: function 18 -/
theorem pattern_Index.equal_l (x y : List Int) (hl : x.length = y.length) (hm : x.length ≤ 9223372036854775807) (d : Nat) : ∀ (i : Nat), i + d = x.length → slices_Equal_int_int.l0 (d + 1) x y (x.length : Int) (i : Int) = some (decide (x.drop i = y.drop i)) := by
  induction d with
  | zero =>
    intro i hi
    simp only [slices_Equal_int_int.l0]
    rw [if_neg (by omega), List.drop_eq_nil_of_le (by omega), List.drop_eq_nil_of_le (by omega)]
    rfl
  | succ d ih =>
    intro i hi
    rw [slices_Equal_int_int.l0, if_pos (by omega), if_pos (by omega), if_pos (by omega), if_pos (by omega)]
    have hx : x.drop i = rd x (i : Int) :: x.drop (i + 1) := by
      rw [List.drop_eq_getElem_cons (by omega)]
      unfold rd
      rw [Int.toNat_natCast, List.getD_eq_getElem?_getD, List.getElem?_eq_getElem (by omega)]
      rfl
    have hy : y.drop i = rd y (i : Int) :: y.drop (i + 1) := by
      rw [List.drop_eq_getElem_cons (by omega)]
      unfold rd
      rw [Int.toNat_natCast, List.getD_eq_getElem?_getD, List.getElem?_eq_getElem (by omega)]
      rfl
    by_cases e : rd x (i : Int) = rd y (i : Int)
    · rw [if_pos e, show wrap64 ((i : Int) + 1) = ((i + 1 : Nat) : Int) by unfold wrap64; omega, ih (i + 1) (by omega), hx, hy, e]
      simp
    · rw [if_neg e, hx, hy]
      simp [e]
theorem pattern_Index.equal (x y : List Int) (hm : x.length ≤ 9223372036854775807) : slices_Equal_int_int.f (x.length + 1) x y = some (decide (x = y)) := by
  unfold slices_Equal_int_int.f
  by_cases hl : x.length = y.length
  · rw [if_pos (by omega)]
    have := pattern_Index.equal_l x y hl hm x.length 0 (by omega)
    simpa using this
  · rw [if_neg (by omega)]
    have : x ≠ y := fun e => hl (by rw [e])
    simp [this]

/-- The closure: is a list the given one? -/
theorem pattern_Index.same (A0 : Option Addr) (c0 : Nat) (x : List Int) (A1 : Option Addr) (c1 : Nat) (y : List Int) (b : Nat) (w : World) (hx : Kd.C (Kd.int .i64) w A0 x.length x) (hc0 : x.length ≤ c0) (hy : Kd.C (Kd.int .i64) w A1 y.length y) (hc1 : y.length ≤ c1) (hb : w.cell? ⟨b, 0, none⟩ = some (.slice A1 y.length c1)) :
    Calls Try.prog 32 #[.slice A0 x.length c0, .pointer (some ⟨b, 0, none⟩)] w fun e w' => e = .returned (.bool (decide (x = y))) ∧ Drawn0 w w' := by
  have HX := Aside0.mk hx
  have HY := Aside0.mk hy
  have HE := Aside0.mk (pattern_Index.equal x y hx.2.1)
  clear hx hy
  go_enter Try.func32, Try.ntmps32
  go_wp2_with (go_at_call 33; refine (slices_Equal_int_int.calls _ A0 c0 x A1 c1 y _ _ HX.out hc0 HY.out hc1 HE.out).mono ?_; rintro e w1 ⟨rfl, hd⟩; have HD := Aside0.mk hd; clear hd)
  go_ret
  exact ⟨rfl, HD.out⟩

theorem pattern_Index.trans {w w1 w2 : World} (h : Drawn0 w w1) (k : Drawn0 w1 w2) : Drawn0 w w2 := by
  obtain ⟨m, rfl⟩ := k
  exact h.step m
def pattern_Index.R (A1 : Option Addr) (y : List Int) (ls : List (List Int)) (w : World) (g : Nat) (i : Value) (wr : World) : Prop :=
  ∃ k : Nat, i = .int .i64 (k : Int) ∧ k + g = ls.length ∧ (∀ j, j < k → ls[j]? ≠ some y) ∧ Drawn0 w wr
def pattern_Index.at_ (ls : List (List Int)) (y : List Int) : Int := ((ls.findIdx? (fun x => x == y)).map (fun n => (n : Int))).getD (-1)
theorem pattern_Index.at_hit {ls : List (List Int)} {y : List Int} {k : Nat} (h : ls[k]? = some y) (hn : ∀ j, j < k → ls[j]? ≠ some y) : pattern_Index.at_ ls y = k := by
  unfold pattern_Index.at_
  have hk := (List.getElem?_eq_some_iff.1 h).1
  have he := (List.getElem?_eq_some_iff.1 h).2
  rw [List.findIdx?_eq_some_of_exists (by exact ⟨y, List.mem_of_getElem? h, by simp⟩)]
  have : ls.findIdx (fun x => x == y) = k := by
    rw [List.findIdx_eq hk]
    refine ⟨by simp [he], fun j hj => ?_⟩
    have := hn j hj
    rw [List.getElem?_eq_getElem (by omega)] at this
    simpa using this
  rw [this]
  rfl
theorem pattern_Index.at_miss {ls : List (List Int)} {y : List Int} (hn : ∀ j, j < ls.length → ls[j]? ≠ some y) : pattern_Index.at_ ls y = -1 := by
  unfold pattern_Index.at_
  have : ls.findIdx? (fun x => x == y) = none := by
    rw [List.findIdx?_eq_none_iff]
    intro x hx
    obtain ⟨j, hj, rfl⟩ := List.getElem_of_mem hx
    have := hn j hj
    rw [List.getElem?_eq_getElem hj] at this
    simpa using this
  rw [this]
  rfl

set_option maxHeartbeats 1000000 in
theorem pattern_Index.find (A : Option Addr) (c : Nat) (ls : List (List Int)) (A1 : Option Addr) (c1 : Nat) (y : List Int) (b : Nat) (w : World) (hl : Kd.C (Kd.slice 3 (Kd.int .i64)) w A ls.length ls) (hc : ls.length ≤ c) (hy : Kd.C (Kd.int .i64) w A1 y.length y) (hc1 : y.length ≤ c1) (hb : w.cell? ⟨b, 0, none⟩ = some (.slice A1 y.length c1)) :
    Calls Try.prog 34 #[.slice A ls.length c, .func (.func 32) #[] #[.pointer (some ⟨b, 0, none⟩)]] w fun e w' => e = .returned (.int .i64 (pattern_Index.at_ ls y)) ∧ Drawn0 w w' := by
  have HL := Aside0.mk hl
  have HY := Aside0.mk hy
  have HM := Aside0.mk hl.2.1
  clear hl hy
  go_enter Try.func34, Try.ntmps34
  go_wp2_with fail
  go_loopg [8] ls.length (fun g i wr => pattern_Index.R A1 y ls w g i wr)
  case atStart => exact ⟨0, rfl, by omega, fun j hj => absurd hj (Nat.not_lt_zero j), Drawn0.refl w⟩
  case round =>
    obtain ⟨k, hi, hk, hn, hd⟩ := hrel
    subst hi
    have HN := Aside0.mk hn
    have HD := Aside0.mk hd
    clear hn hd
    have hmx := HM.out
    by_cases hlt : k < ls.length
    · obtain ⟨ad, A0, c0, rfl, hcell, hcc, hC⟩ := at_L1 (Kd.C_below HL.out HD.out.below) (k : Int) (by omega) (by omega)
      rw [Int.toNat_natCast] at hcell
      have HC := Aside0.mk hC
      have HYr := Aside0.mk (Kd.C_below HY.out HD.out.below)
      have hbr : wr.cell? ⟨b, 0, none⟩ = some (.slice A1 y.length c1) := pw_cell_below HD.out.below hb
      clear hC
      have hrd : ls[k]? = some (rd_L1 ls (k : Int)) := by
        unfold rd_L1
        rw [Int.toNat_natCast, List.getD_eq_getElem?_getD, List.getElem?_eq_getElem hlt]
        rfl
      obtain ⟨x, hx⟩ : ∃ x, x = rd_L1 ls (k : Int) := ⟨_, rfl⟩
      rw [← hx] at hrd hcell hcc
      have HX := Aside0.mk hx
      have HCx := Aside0.mk (show Kd.C (Kd.int .i64) wr A0 x.length x by rw [hx]; exact HC.out)
      have HRD := Aside0.mk hrd
      clear hx hrd HC
      by_cases he : x = y
      · have hdt : decide (x = y) = true := decide_eq_true he
        have HE := Aside0.mk he
        clear he
        go_wp2_with (go_at_call 32; refine (pattern_Index.same _ _ x _ _ y b _ HCx.out hcc HYr.out hc1 hbr).mono ?_; rw [hdt]; rintro e w1 ⟨rfl, hd1⟩; have HD1 := Aside0.mk hd1; clear hd1)
        go_ret
        have h1 := HRD.out
        rw [HE.out] at h1
        exact ⟨by rw [pattern_Index.at_hit h1 HN.out]; rfl, pattern_Index.trans HD.out HD1.out⟩
      · have hdt : decide (x = y) = false := decide_eq_false he
        have HE := Aside0.mk he
        clear he
        go_wp2_with (go_at_call 32; refine (pattern_Index.same _ _ x _ _ y b _ HCx.out hcc HYr.out hc1 hbr).mono ?_; rw [hdt]; rintro e w1 ⟨rfl, hd1⟩; have HD1 := Aside0.mk hd1; clear hd1)
        go_roundg (ls.length - (k + 1))
        case measure => omega
        case rel =>
          refine ⟨k + 1, by go_num, by omega, fun j hj => ?_, pattern_Index.trans HD.out HD1.out⟩
          rcases Nat.lt_or_ge j k with h | h
          · exact HN.out j h
          · obtain rfl : j = k := by omega
            rw [HRD.out]
            intro e
            exact HE.out (Option.some.inj e)
    · go_wp2_with fail
      go_ret
      exact ⟨by rw [pattern_Index.at_miss (fun j hj => HN.out j (by omega))]; rfl, HD.out⟩
def pattern_Index.f (k : Nat) (a0_0 : Int) (a0_1 : Int) (a0_2 : Int) (a0_3 : Int) (l0_4 : List Int) (l1 : List Int) : Option (Int × Int) :=
  (pattern_Fits.f k a0_0 a0_1 a0_2 a0_3 l0_4 l1).bind fun e => if e = 0 then ((pattern_list.f a0_0 a0_1 a0_2 a0_3 l0_4 1024).bind fun t => some (pattern_Index.at_ t l1, 0)) else some (0, e)
theorem pattern_Index.mono : ∀ a0 a1 a2 a3 a4 a5 k, LeO (pattern_Index.f k a0 a1 a2 a3 a4 a5) (pattern_Index.f (k + 1) a0 a1 a2 a3 a4 a5) := by
  intro a0 a1 a2 a3 a4 a5 k r h
  unfold pattern_Index.f at h ⊢
  obtain ⟨e, he, h⟩ := Option.bind_eq_some_iff.mp h
  rw [pattern_Fits.mono _ _ _ _ _ _ _ _ he, Option.bind_some]
  exact h
def pattern_Index.begun (w : World) (a0_0 : Int) (a0_1 : Int) (a0_2 : Int) (a0_3 : Int) (A0_4 : Option Addr) (n0_4 : Nat) (c0_4 : Nat) (A1 : Option Addr) (n1 : Nat) (c1 : Nat) : World :=
  (w.alloc (Obj.cells #[Value.int IntKind.i64 a0_0, Value.int IntKind.i64 a0_1, Value.int IntKind.i64 a0_2, Value.int IntKind.i64 a0_3, Value.slice A0_4 n0_4 c0_4] 24)).alloc (Obj.cells #[Value.slice A1 n1 c1] 22)
set_option maxHeartbeats 4000000 in
set_option maxRecDepth 100000 in
theorem pattern_Index.calls (k : Nat) (a0_0 : Int) (a0_1 : Int) (a0_2 : Int) (a0_3 : Int) (A0_4 : Option Addr) (c0_4 : Nat) (l0_4 : List Int) (A1 : Option Addr) (c1 : Nat) (l1 : List Int) (r1 : Int) (r2 : Int) (w : World) (hr0_4 : Kd.C (Kd.int .i64) w A0_4 l0_4.length l0_4) (hc0_4 : l0_4.length ≤ c0_4) (hr1 : Kd.C (Kd.int .i64) w A1 l1.length l1) (hc1 : l1.length ≤ c1) (h : pattern_Index.f k a0_0 a0_1 a0_2 a0_3 l0_4 l1 = some (r1, r2)) :
    Calls Try.prog 18 #[.agg #[.int .i64 a0_0, .int .i64 a0_1, .int .i64 a0_2, .int .i64 a0_3, .slice A0_4 l0_4.length c0_4], .slice A1 l1.length c1] w fun e w' => e = .returned (.tuple #[.int .i64 r1, .int .i64 r2]) ∧ Below w.heap.size w w' := by
  have hu24 := Try.underlying24
  have hmf : ∀ (fn : Fn) (first cap : Array Value) (w : World), (Instr.makeFunc fn first cap).run Try.prog w = .ok (.func fn first cap) w := fun _ _ _ _ => rfl
  obtain ⟨e, he, h⟩ := Option.bind_eq_some_iff.mp h
  obtain ⟨W, hW⟩ : ∃ W, W = pattern_Index.begun w a0_0 a0_1 a0_2 a0_3 A0_4 l0_4.length c0_4 A1 l1.length c1 := ⟨_, rfl⟩
  have hb1 : W.heap[w.heap.size]? = some (.cells #[Value.int IntKind.i64 a0_0, Value.int IntKind.i64 a0_1, Value.int IntKind.i64 a0_2, Value.int IntKind.i64 a0_3, Value.slice A0_4 l0_4.length c0_4] 24 (0, 0)) := by
    rw [hW, pattern_Index.begun, Below.heap_alloc _ _ _ (by simp)]
    exact heap_alloc_new w _
  have hb2 : W.heap[w.heap.size + 1]? = some (.cells #[Value.slice A1 l1.length c1] 22 (0, 0)) := by
    have := heap_alloc_new (w.alloc (Obj.cells #[Value.int IntKind.i64 a0_0, Value.int IntKind.i64 a0_1, Value.int IntKind.i64 a0_2, Value.int IntKind.i64 a0_3, Value.slice A0_4 l0_4.length c0_4] 24)) (Obj.cells #[Value.slice A1 l1.length c1] 22)
    rw [show (w.alloc (Obj.cells #[Value.int IntKind.i64 a0_0, Value.int IntKind.i64 a0_1, Value.int IntKind.i64 a0_2, Value.int IntKind.i64 a0_3, Value.slice A0_4 l0_4.length c0_4] 24)).heap.size = w.heap.size + 1 by simp] at this
    rw [hW]
    exact this
  have hbw : Below w.heap.size w W := by
    rw [hW]
    exact below_alloc (below_alloc (Below.refl _ _) _) _
  have HR0 := Aside0.mk (Kd.C_below hr0_4 hbw)
  have HR1 := Aside0.mk (Kd.C_below hr1 hbw)
  have HB := Aside0.mk hbw
  have HB1 := Aside0.mk hb1
  have HB2 := Aside0.mk hb2
  have HE := Aside0.mk he
  have hW' := hW
  unfold pattern_Index.begun at hW'
  have HWW := Aside0.mk hW'
  clear hW hW' hr0_4 hr1 hbw hb1 hb2 he
  by_cases h0 : e = 0
  · rw [if_pos h0] at h
    subst h0
    obtain ⟨t, ht, h⟩ := Option.bind_eq_some_iff.mp h
    simp only [Option.some.injEq, Prod.mk.injEq] at h
    obtain ⟨rfl, rfl⟩ := h
    have HT := Aside0.mk ht
    clear ht
    go_enter Try.func18, Try.ntmps18
    go_wp2_with fail
    rw [← HWW.out]
    refine (pattern_Fits.calls k a0_0 a0_1 a0_2 a0_3 A0_4 c0_4 l0_4 A1 c1 l1 _ W HR0.out hc0_4 HR1.out hc1 HE.out).mono ?_
    rintro e w3 ⟨rfl, hb⟩
    have HB3 := Aside0.mk hb
    have d1 : w3.heap[w.heap.size]? = some (.cells #[Value.int IntKind.i64 a0_0, Value.int IntKind.i64 a0_1, Value.int IntKind.i64 a0_2, Value.int IntKind.i64 a0_3, Value.slice A0_4 l0_4.length c0_4] 24 (0, 0)) := (hb.block _ (blk_lt HB1.out)).trans HB1.out
    have d2 : w3.heap[w.heap.size + 1]? = some (.cells #[Value.slice A1 l1.length c1] 22 (0, 0)) := (hb.block _ (blk_lt HB2.out)).trans HB2.out
    have e0 : w3.cell? ⟨w.heap.size, 0, none⟩ = some (.int .i64 a0_0) := (blk_cell d1 0).trans rfl
    have e1 : w3.cell? ⟨w.heap.size, 1, none⟩ = some (.int .i64 a0_1) := (blk_cell d1 1).trans rfl
    have e2 : w3.cell? ⟨w.heap.size, 2, none⟩ = some (.int .i64 a0_2) := (blk_cell d1 2).trans rfl
    have e3 : w3.cell? ⟨w.heap.size, 3, none⟩ = some (.int .i64 a0_3) := (blk_cell d1 3).trans rfl
    have e4 : w3.cell? ⟨w.heap.size, 4, none⟩ = some (.slice A0_4 l0_4.length c0_4) := (blk_cell d1 4).trans rfl
    have e5 : w3.cell? ⟨w.heap.size + 1, 0, none⟩ = some (.slice A1 l1.length c1) := (blk_cell d2 0).trans rfl
    have HR3 := Aside0.mk (Kd.C_below HR0.out hb)
    have HR4 := Aside0.mk (Kd.C_below HR1.out hb)
    clear hb d1 d2
    go_wp2_with (first
      | (go_at_call 30; refine (pattern_list.calls a0_0 a0_1 a0_2 a0_3 A0_4 c0_4 l0_4 1024 t _ HR3.out hc0_4 HT.out).mono ?_; rintro e w4 ⟨v4, rfl, ho, hb4⟩; have hrd := Kd.S_reads ho; obtain ⟨A4, k4, rfl, hk4, hC4⟩ := hrd; have HC4 := Aside0.mk hC4; have HB4 := Aside0.mk hb4; have HR5 := Aside0.mk (Kd.C_below HR4.out hb4); have e6 : w4.cell? ⟨w.heap.size + 1, 0, none⟩ = some (.slice A1 l1.length c1) := pw_cell_below hb4 e5; clear ho hb4 hC4)
      | (go_at_call 34; refine (pattern_Index.find A4 k4 t A1 c1 l1 (w.heap.size + 1) _ HC4.out hk4 HR5.out hc1 e6).mono ?_; rintro e w5 ⟨rfl, hd5⟩; have HD5 := Aside0.mk hd5; clear hd5))
    go_ret2
    exact ⟨rfl, HB.out.trans ((HB3.out.mono HB.out.size).trans ((HB4.out.mono (Nat.le_trans HB.out.size HB3.out.size)).trans (HD5.out.below.mono (Nat.le_trans HB.out.size (Nat.le_trans HB3.out.size HB4.out.size)))))⟩
  · rw [if_neg h0] at h
    simp only [Option.some.injEq, Prod.mk.injEq] at h
    obtain ⟨rfl, rfl⟩ := h
    have hne : (e != 0) = true := by simpa using h0
    have hne2 : (e == 0) = false := by simpa using h0
    clear h0
    go_enter Try.func18, Try.ntmps18
    go_wp2_with fail
    rw [← HWW.out]
    refine (pattern_Fits.calls k a0_0 a0_1 a0_2 a0_3 A0_4 c0_4 l0_4 A1 c1 l1 _ W HR0.out hc0_4 HR1.out hc1 HE.out).mono ?_
    rintro e' w3 ⟨rfl, hb⟩
    have HB3 := Aside0.mk hb
    clear hb
    go_wp2_with fail
    go_ret2
    exact ⟨rfl, HB.out.trans (HB3.out.mono HB.out.size)⟩

end Go.Proofs.Ytebhilnnbjkbeaa.P38
