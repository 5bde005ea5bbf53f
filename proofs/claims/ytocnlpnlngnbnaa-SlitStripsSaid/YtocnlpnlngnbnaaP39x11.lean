-- Made by wip/tools/gprint.py of this session, a driver over the kit's print program with given functions.
import Derived.Test.YtocnlpnlngnbnaaP39x0
import Derived.Test.YtocnlpnlngnbnaaP39x1
namespace Go.Proofs.Ytocnlpnlngnbnaa.P39
open Go.RowKit Go.Proofs.YtocnlpnlngnbnaaW.PrintWords Go.Proofs.YtocnlpnlngnbnaaW.PrintLast Go.Proofs.YtocnlpnlngnbnaaW.PrintMore
attribute [local go_sem] max2_int min2_int max_two min_two max_three min_three max_four min_four   -- for this text's walks alone
set_option linter.unusedVariables false
set_option linter.unusedSimpArgs false

-- NOT PRINTED: function 46 (api_Strip_46)


-- NOT PRINTED: function 33 (api_Strip_33)


/-! ### slit_Check: function 14 -/
def slit_Check.bad (width : Int) (x : S57) : Bool := !(decide (x.f0 ≥ 0) && (decide (x.f1 ≥ 1) && (decide (x.f0 ≤ width) && decide (x.f1 ≤ width - x.f0))))
def slit_Check.over : List S57 → Bool
 | x :: y :: l => decide (y.f0 < x.f0 + x.f1) || slit_Check.over (y :: l)
 | _ => false
def slit_Check.f (width : Int) (l : List (S57)) : Option Int :=
 some (if width < 1 ∨ width > 12000 then 1 else if 12 < l.length then 8 else if l.any (slit_Check.bad width) = true then 20 else if slit_Check.over l = true then 12 else 0)
theorem slit_Check.lies (width : Int) (x : S57) (h0 : 1 ≤ width) (h1 : width ≤ 12000) : slit_lies.f x.f0 x.f1 width = some (!(slit_Check.bad width x)) := by
 unfold slit_lies.f slit_Check.bad
 by_cases c1 : x.f0 ≥ 0
 ·by_cases c2 : x.f1 ≥ 1
  ·by_cases c3 : x.f0 ≤ width
   ·rw [if_pos c1, if_pos c2, if_pos c3, show wrap64 (width - x.f0) = width - x.f0 by unfold wrap64; omega, decide_eq_true c1, decide_eq_true c2, decide_eq_true c3]
    simp
   ·rw [if_pos c1, if_pos c2, if_neg c3, decide_eq_false c3]
    simp
  ·rw [if_pos c1, if_neg c2, decide_eq_false c2]
   simp
 ·rw [if_neg c1, decide_eq_false c1]
  simp
theorem slit_Check.good {width : Int} {x : S57} (h : slit_Check.bad width x = false) : 0 ≤ x.f0 ∧ 1 ≤ x.f1 ∧ x.f0 ≤ width ∧ x.f1 ≤ width - x.f0 := by
 unfold slit_Check.bad at h
 simp only [Bool.not_eq_false', Bool.and_eq_true, decide_eq_true_eq] at h
 omega
set_option maxHeartbeats 1000000 in
set_option maxRecDepth 100000 in
theorem slit_Check.clos (width : Int) (x : S57) (b : Nat) (w : World) (h0 : 1 ≤ width) (h1 : width ≤ 12000) (hb : w.cell? ⟨b, 0, none⟩ = some (.int .i64 width)) :
  Calls Try.prog 34 #[.agg #[.int .i64 x.f0, .int .i64 x.f1], .pointer (some ⟨b, 0, none⟩)] w fun e w' => e = .returned (.bool (slit_Check.bad width x)) ∧ Below w.heap.size w w' := by
 have HL := Aside0.mk (slit_Check.lies width x h0 h1)
 have hu57 := Try.underlying57
 have hb' : ∀ o, (w.alloc o).cell? ⟨b, 0, none⟩ = some (.int .i64 width) := fun o => pw_cell_below (below_alloc (Below.refl _ _) o) hb
 go_enter Try.func34, Try.ntmps34
 go_wp2_with (go_at_call 35; refine (slit_lies.calls _ _ _ _ _ HL.out).mono ?_; rintro e w1 ⟨rfl, hd⟩; have HB := Aside0.mk hd; clear hd)
 go_ret
 exact ⟨by simp, (below_alloc (Below.refl _ _) _).trans (HB.out.mono (by simp))⟩
theorem slit_Check.rd_ (l : List S57) (k : Nat) (h : k < l.length) : rd_T57 l (k : Int) = l[k] := by
 unfold rd_T57
 rw [Int.toNat_natCast, List.getD_eq_getElem?_getD, List.getElem?_eq_getElem h]
 rfl
def slit_Check.Rel (width : Int) (l : List S57) (w : World) (g : Nat) (i : Value) (wr : World) : Prop :=
 ∃ k : Nat, i = .int .i64 (k : Int) ∧ k + g = l.length ∧ (∀ j, j < k → ∀ h : j < l.length, slit_Check.bad width l[j] = false) ∧ Below w.heap.size w wr
set_option maxHeartbeats 1000000 in
set_option maxRecDepth 100000 in
theorem slit_Check.find (width : Int) (A : Option Addr) (c : Nat) (l : List S57) (b : Nat) (w : World) (h0 : 1 ≤ width) (h1 : width ≤ 12000) (hl : Kd.C k57 w A l.length l) (hc : l.length ≤ c) (hb : w.cell? ⟨b, 0, none⟩ = some (.int .i64 width)) :
  Calls Try.prog 46 #[.slice A l.length c, .func (.func 34) #[] #[.pointer (some ⟨b, 0, none⟩)]] w fun e w' => (∃ k : Int, e = .returned (.int .i64 k) ∧ (0 ≤ k ↔ l.any (slit_Check.bad width) = true)) ∧ Below w.heap.size w w' := by
 have HL := Aside0.mk hl
 have HM := Aside0.mk hl.2.1
 have hu57 := Try.underlying57
 clear hl
 go_enter Try.func46, Try.ntmps46
 go_wp2_with fail
 go_loopg [8] l.length (fun g i wr => slit_Check.Rel width l w g i wr)
 case atStart => exact ⟨0, rfl, by omega, fun j hj => absurd hj (Nat.not_lt_zero j), Below.refl _ _⟩
 case round =>
  obtain ⟨k, hi, hk, hn, hd⟩ := hrel
  subst hi
  have HN := Aside0.mk hn
  have HD := Aside0.mk hd
  clear hn hd
  have hmx := HM.out
  by_cases hlt : k < l.length
  ·obtain ⟨ad, rfl, hc0, hc1⟩ := at_T57 (Kd.C_below HL.out HD.out) (k : Int) (by omega) (by omega)
   rw [slit_Check.rd_ l k hlt] at hc0 hc1
   rw [Int.toNat_natCast] at hc0 hc1
   have hbr : wr.cell? ⟨b, 0, none⟩ = some (.int .i64 width) := pw_cell_below HD.out hb
   obtain ⟨x, hx⟩ : ∃ x, x = l[k] := ⟨_, rfl⟩
   rw [← hx] at hc0 hc1
   have HX := Aside0.mk hx
   clear hx
   rcases hbad : slit_Check.bad width x with _ | _
   ·have HE := Aside0.mk hbad
    clear hbad
    go_wp2_with (go_at_call 34; refine (slit_Check.clos width x b _ h0 h1 hbr).mono ?_; rw [HE.out]; rintro e w1 ⟨rfl, hd1⟩; have HD1 := Aside0.mk hd1; clear hd1)
    go_roundg (l.length - (k + 1))
    case measure => omega
    case rel =>
     refine ⟨k + 1, by go_num, by omega, fun j hj hjl => ?_, HD.out.trans (HD1.out.mono HD.out.size)⟩
     rcases Nat.lt_or_ge j k with h | h
     ·exact HN.out j h hjl
     ·obtain rfl : j = k := by omega
      rw [← HX.out]
      exact HE.out
   ·have HE := Aside0.mk hbad
    clear hbad
    go_wp2_with (go_at_call 34; refine (slit_Check.clos width x b _ h0 h1 hbr).mono ?_; rw [HE.out]; rintro e w1 ⟨rfl, hd1⟩; have HD1 := Aside0.mk hd1; clear hd1)
    go_ret
    refine ⟨⟨_, rfl, ⟨fun _ => List.any_eq_true.2 ⟨x, by rw [HX.out]; exact List.getElem_mem hlt, HE.out⟩, fun _ => by omega⟩⟩, HD.out.trans (HD1.out.mono HD.out.size)⟩
  ·go_wp2_with fail
   go_ret
   refine ⟨⟨_, rfl, ⟨fun h => by omega, fun h => ?_⟩⟩, HD.out⟩
   obtain ⟨x, hx, hbad⟩ := List.any_eq_true.1 h
   obtain ⟨j, hj, rfl⟩ := List.getElem_of_mem hx
   rw [HN.out j (by omega) hj] at hbad
   cases hbad
set_option maxHeartbeats 1000000 in
set_option maxRecDepth 100000 in
theorem slit_Check.has (width : Int) (A : Option Addr) (c : Nat) (l : List S57) (b : Nat) (w : World) (h0 : 1 ≤ width) (h1 : width ≤ 12000) (hl : Kd.C k57 w A l.length l) (hc : l.length ≤ c) (hb : w.cell? ⟨b, 0, none⟩ = some (.int .i64 width)) :
  Calls Try.prog 33 #[.slice A l.length c, .func (.func 34) #[] #[.pointer (some ⟨b, 0, none⟩)]] w fun e w' => e = .returned (.bool (l.any (slit_Check.bad width))) ∧ Below w.heap.size w w' := by
 have HL := Aside0.mk hl
 clear hl
 go_enter Try.func33, Try.ntmps33
 go_wp2_with (go_at_call 46; refine (slit_Check.find width _ _ l b _ h0 h1 HL.out hc hb).mono ?_; rintro e w1 ⟨⟨k, rfl, hk⟩, hd⟩; have HK := Aside0.mk hk; have HB := Aside0.mk hd; clear hd hk)
 go_ret
 refine ⟨?_, HB.out⟩
 have := HK.out
 rcases h : l.any (slit_Check.bad width) with _ | _
 ·rw [h] at this
  rw [decide_eq_false (fun h2 => by have := this.1 h2; cases this)]
  rfl
 ·rw [h] at this
  rw [decide_eq_true (this.2 rfl)]
  rfl
def slit_Check.Rel2 (l : List S57) (w : World) (g : Nat) (i : Value) (wr : World) : Prop :=
 ∃ k : Nat, i = .int .i64 ((k : Int) + 1) ∧ k + g = l.length ∧ slit_Check.over (l.drop k) = slit_Check.over l ∧ Below w.heap.size w wr
set_option maxHeartbeats 4000000 in
set_option maxRecDepth 100000 in
theorem slit_Check.calls (a0 : Int) (A1 : Option Addr) (c1 : Nat) (l1 : List (S57)) (r : Int) (w : World) (hr1 : Kd.C k57 w A1 l1.length l1) (hc1 : l1.length ≤ c1) (h : slit_Check.f a0 l1 = some r) :
  Calls Try.prog 14 #[.int .i64 a0, .slice A1 l1.length c1] w fun e w' => e = .returned (.int .i64 r) ∧ Below w.heap.size w w' := by
 unfold slit_Check.f at h
 have h := Option.some.inj h
 have HL := Aside0.mk hr1
 have HM := Aside0.mk hr1.2.1
 clear hr1
 have hu57 := Try.underlying57
 by_cases w0 : a0 < 1
 ·rw [if_pos (.inl w0)] at h
  subst h
  go_enter Try.func14, Try.ntmps14
  go_wp2_with fail
  go_ret
  exact ⟨rfl, below_alloc (Below.refl _ _) _⟩
 by_cases w1 : 12000 < a0
 ·rw [if_pos (.inr w1)] at h
  subst h
  go_enter Try.func14, Try.ntmps14
  go_wp2_with fail
  go_ret
  exact ⟨rfl, below_alloc (Below.refl _ _) _⟩
 rw [if_neg (by omega)] at h
 by_cases w2 : 12 < l1.length
 ·rw [if_pos w2] at h
  subst h
  go_enter Try.func14, Try.ntmps14
  go_wp2_with fail
  go_ret
  exact ⟨rfl, below_alloc (Below.refl _ _) _⟩
 rw [if_neg w2] at h
 have hw0 : 1 ≤ a0 := by omega
 have hw1 : a0 ≤ 12000 := by omega
 have hmf : ∀ (fn : Fn) (first cap : Array Value) (w : World), (Instr.makeFunc fn first cap).run Try.prog w = .ok (.func fn first cap) w := fun _ _ _ _ => rfl
 clear w0 w1
 rcases hany : l1.any (slit_Check.bad a0) with _ | _
 ·rw [hany, if_neg (by simp)] at h
  have HH := Aside0.mk h
  have HA := Aside0.mk hany
  have HG := Aside0.mk (show ∀ x ∈ l1, slit_Check.bad a0 x = false from fun x hx => by
   have := List.any_eq_false.1 hany x hx
   simpa using this)
  clear hany h
  go_enter Try.func14, Try.ntmps14
  go_wp2_with (go_at_call 33; refine (slit_Check.has a0 _ _ l1 _ _ hw0 hw1 (Kd.C_alloc HL.out _) hc1 (blk_cell (heap_alloc_new w _) 0)).mono ?_; rw [HA.out]; rintro e w3 ⟨rfl, hd⟩; have HB := Aside0.mk (show Below w.heap.size w w3 from (below_alloc (Below.refl _ _) _).trans (hd.mono (by simp))); clear hd)
  go_loopg [5] l1.length (fun g i wr => slit_Check.Rel2 l1 w g i wr)
  case atStart => exact ⟨0, rfl, by omega, rfl, HB.out⟩
  case round =>
   obtain ⟨k, hi, hk, hn, hd⟩ := hrel
   subst hi
   have HN := Aside0.mk hn
   have HD := Aside0.mk hd
   clear hn hd
   have hmx := HM.out
   by_cases hlt : k + 1 < l1.length
   ·obtain ⟨ad, rfl, p0, p1⟩ := at_T57 (Kd.C_below HL.out HD.out) (k : Int) (by omega) (by omega)
    obtain ⟨ad2, e2, q0, _⟩ := at_T57 (Kd.C_below HL.out HD.out) ((k : Int) + 1) (by omega) (by omega)
    cases e2
    have e3 := slit_Check.rd_ l1 (k + 1) hlt
    rw [show ((k + 1 : Nat) : Int) = (k : Int) + 1 by omega] at e3
    rw [e3, show ((k : Int) + 1).toNat = k + 1 by omega] at q0
    rw [slit_Check.rd_ l1 k (by omega), Int.toNat_natCast] at p0 p1
    have hx := slit_Check.good (HG.out l1[k] (List.getElem_mem _))
    have hy := slit_Check.good (HG.out l1[k + 1] (List.getElem_mem _))
    have hov : slit_Check.over (l1.drop k) = (decide ((l1[k + 1]).f0 < (l1[k]'(by omega)).f0 + (l1[k]'(by omega)).f1) || slit_Check.over (l1.drop (k + 1))) := by
     rw [List.drop_eq_getElem_cons (by omega : k < l1.length), List.drop_eq_getElem_cons hlt, slit_Check.over]
    rw [HN.out] at hov
    have HO := Aside0.mk hov
    clear hov e3
    obtain ⟨x, ex⟩ : ∃ x, x = l1[k]'(by omega) := ⟨_, rfl⟩
    obtain ⟨y, ey⟩ : ∃ y, y = l1[k + 1] := ⟨_, rfl⟩
    rw [← ex] at p0 p1 hx HO
    rw [← ey] at q0 hy HO
    clear ex ey
    by_cases hc : y.f0 < x.f0 + x.f1
    ·have HR : r = 12 := by
      have h1 := HO.out
      have h2 := HH.out
      rw [decide_eq_true hc, Bool.true_or] at h1
      rw [if_pos h1] at h2
      exact h2.symm
     subst HR
     go_wp2
     repeat (go_quiet (fail); try go_wp2)
     go_ret
     exact ⟨rfl, by repeat (first | exact HD.out | (with_reducible refine below_drew ?_) | (with_reducible refine pw_below_drewN ?_ _))⟩
    ·have HO2 := Aside0.mk (show slit_Check.over (l1.drop (k + 1)) = slit_Check.over l1 by rw [HO.out, decide_eq_false hc, Bool.false_or])
     go_wp2
     repeat (go_quiet (fail); try go_wp2)
     go_roundg (l1.length - (k + 1))
     case measure => omega
     case rel => exact ⟨k + 1, by go_num, by omega, HO2.out, by repeat (first | exact HD.out | (with_reducible refine below_drew ?_) | (with_reducible refine pw_below_drewN ?_ _))⟩
   ·have HR : r = 0 := by
     have h2 := HH.out
     have h1 : slit_Check.over (l1.drop k) = false := by
      rcases Nat.lt_or_ge k l1.length with h | h
      ·rw [List.drop_eq_getElem_cons h, List.drop_eq_nil_of_le (by omega)]
       rfl
      ·rw [List.drop_eq_nil_of_le h]
       rfl
     rw [← HN.out, h1, if_neg (by simp)] at h2
     exact h2.symm
    subst HR
    go_wp2_with fail
    go_ret
    exact ⟨rfl, HD.out⟩
 ·rw [hany, if_pos rfl] at h
  subst h
  have HA := Aside0.mk hany
  clear hany
  go_enter Try.func14, Try.ntmps14
  go_wp2_with (go_at_call 33; refine (slit_Check.has a0 _ _ l1 _ _ hw0 hw1 (Kd.C_alloc HL.out _) hc1 (blk_cell (heap_alloc_new w _) 0)).mono ?_; rw [HA.out]; rintro e w3 ⟨rfl, hd⟩; have HB := Aside0.mk (show Below w.heap.size w w3 from (below_alloc (Below.refl _ _) _).trans (hd.mono (by simp))); clear hd)
  go_ret
  exact ⟨rfl, HB.out⟩


/-! ### api_Strip_32: function 32 -/
def api_Strip_32.f (l0 : List (S57)) : Option (List (S57)) := if l0.length ≤ 1000000 then some l0 else none
set_option maxHeartbeats 1000000 in
theorem api_Strip_32.calls (A0 : Option Addr) (c0 : Nat) (l0 : List (S57)) (r : List (S57)) (w : World) (hr0 : Kd.C k57 w A0 l0.length l0) (hc0 : l0.length ≤ c0) (h : api_Strip_32.f l0 = some r) :
  Calls Try.prog 32 #[.slice A0 l0.length c0] w fun e w' => ∃ v0_ : Value, e = .returned (v0_) ∧ Kd.R k57 57 w' w.heap.size (fun _ => True) v0_ r ∧ Below w.heap.size w w' := by
 unfold api_Strip_32.f at h
 split at h
 ·rename_i hlen
  obtain rfl := Option.some.inj h
  clear h
  have HR0 := Aside0.mk hr0
  have hu22 := Try.underlying22
  cases A0 with
  | none =>
   obtain rfl : l0 = [] := by
    cases l0 with
    | nil => rfl
    | cons a t => obtain ⟨ad, e, _⟩ := hr0.2.2 (by simp); cases e
   clear hr0
   have heq := Lib.run_eql_slice_nil (P := Try.prog) w 22 57 none 0 c0 0 0 Try.underlying22
   go_enter Try.func32, Try.ntmps32
   go_wp2_with fail
   go_ret
   exact ⟨_, rfl, Kd.R_nil _ _ _ _ _, Below.refl _ _⟩
  | some ad =>
   clear hr0
   have heq := Lib.run_eql_slice_nil (P := Try.prog) w 22 57 (some ad) l0.length c0 0 0 Try.underlying22
   have i3 := info57
   go_enter Try.func32, Try.ntmps32
   go_wp2_with (first | ((with_reducible refine gate_dst (N := 5) rfl ?_); refine Kd.R_lit k57 _ 57 ?hg (N := 5) ?hd (xs := ([] : List S57)) (inner := []) (ok := fun _ => True) (okp := fun _ => True) ?hr ?hp (fun _ hk => hk) trivial (Below.refl _ _) (Nat.le_refl _) (by simp) ?_; (case hd => rfl); (case hg => rfl); (case hr => first | (go_simp; done) | (go_simp; rfl)); (case hp => exact Reps.none _ _); intro v1 w1 ho1 hb1 hg1 hnew1; have HO1 := Aside0.mk ho1; have HB1 := Aside0.mk hb1; clear ho1 hb1 hg1 hnew1) | ((with_reducible refine gate_builtin (b := .append) (xs := #[.tmp 5, .tmp 6]) rfl ?_); at_builtin; refine Kd.R_append_rows k57 (w0 := w) w.heap.size rfl (.tmp 5) (.tmp 6) 22 57 (.agg #[(.int .i64 0), (.int .i64 0)]) 16 rfl Try.underlying22 info57 rfl (by decide) (by omega) _ [] l0 _ _ _ (fun _ => True) (fun _ => False) rfl rfl HO1.out (Kd.C_below HR0.out HB1.out) (fun x _ h => by obtain rfl := k57_open h; exact k57_mkM _ _ _ x) (fun _ h => h.elim) (fun _ _ => trivial) HB1.out HB1.out.size (by simp; omega) ?_; intro v2 w2 ho2 hb2 hg2 hat2; have HO2 := Aside0.mk ho2; have HB2 := Aside0.mk hb2; clear ho2 hb2 hg2 hat2))
   go_ret
   exact ⟨_, rfl, HO2.out, HB2.out⟩
 ·cases h


/-! ### slit_Trim: function 12 -/
def slit_Trim.l0 : Nat → List (S57) → Int → List (S57) → Int → Int → Option ((List (S57)) × Int)
 | 0, _, _, _, _, _ => none
 | k + 1, x7, x8, x22, x23, x24 => if x24 < x23 then (if 0 ≤ x24 then (if x24 < (x22.length : Int) then (if ((rd_T57 x22 x24).f0) > x8 then (if x7.length < 8796093022208 then (slit_Trim.l0 k (x7 ++ [(⟨x8, wrap64 (((rd_T57 x22 x24).f0) - x8)⟩ : S57)]) (wrap64 (((rd_T57 x22 x24).f0) + ((rd_T57 x22 x24).f1))) x22 x23 (wrap64 (x24 + 1))) else (none)) else (slit_Trim.l0 k x7 (wrap64 (((rd_T57 x22 x24).f0) + ((rd_T57 x22 x24).f1))) x22 x23 (wrap64 (x24 + 1)))) else (none)) else (none)) else (some (x7, 0))
def slit_Trim.f (k : Nat) (a0 : Int) (l1 : List (S57)) : Option ((List (S57)) × Int) := (slit_Check.f a0 l1).bind fun t112 => (if t112 = 0 then ((api_Strip_32.f l1).bind fun t113 => (if t113.length < 8796093022208 then ((some (t113 ++ [(⟨a0, 0⟩ : S57)] : List (S57))).bind fun y116 => (slit_Trim.l0 k ([] : List (S57)) 0 y116 (y116.length : Int) 0)) else (none))) else (some (([] : List (S57)), t112)))
theorem slit_Trim.mono_l : ∀ k, (∀ y0 y1 y2 y3 y4, LeO (slit_Trim.l0 k y0 y1 y2 y3 y4) (slit_Trim.l0 (k + 1) y0 y1 y2 y3 y4))
 | 0 => fun _ _ _ _ _ r h => by simp [slit_Trim.l0] at h
 | k + 1 => by
  have ih0 := slit_Trim.mono_l k
  ·intro y0 y1 y2 y3 y4
   unfold slit_Trim.l0
   repeat' first
   | (with_reducible exact ih0 _ _ _ _ _)
   | (with_reducible exact LeO.refl _)
   | (with_reducible exact LeO.none _)
   | (with_reducible refine LeO.ite ?_ ?_)
   | (with_reducible refine LeO.bind ?_ (fun _ => ?_))
   | exact ih0 _ _ _ _ _
   | exact LeO.none _
   | refine LeO.ite ?_ ?_
   | refine LeO.bind ?_ (fun _ => ?_)
theorem slit_Trim.mono : ∀ a0 a1 k, LeO (slit_Trim.f k a0 a1) (slit_Trim.f (k + 1) a0 a1) := by
 intro a0 a1 k
 have ih0 := slit_Trim.mono_l k
 unfold slit_Trim.f
 repeat' first
   | (with_reducible exact ih0 _ _ _ _ _)
   | (with_reducible exact LeO.refl _)
   | (with_reducible exact LeO.none _)
   | (with_reducible refine LeO.ite ?_ ?_)
   | (with_reducible refine LeO.bind ?_ (fun _ => ?_))
   | exact ih0 _ _ _ _ _
   | exact LeO.none _
   | refine LeO.ite ?_ ?_
   | refine LeO.bind ?_ (fun _ => ?_)
set_option maxHeartbeats 8000000 in
set_option maxRecDepth 100000 in
theorem slit_Trim.calls (k : Nat) (a0 : Int) (A1 : Option Addr) (c1 : Nat) (l1 : List (S57)) (r1 : List (S57)) (r2 : Int) (w : World) (hr1 : Kd.C k57 w A1 l1.length l1) (hc1 : l1.length ≤ c1) (h : slit_Trim.f k a0 l1 = some (r1, r2)) :
  Calls Try.prog 12 #[.int .i64 a0, .slice A1 l1.length c1] w fun e w' => ∃ v0_ : Value, e = .returned (.tuple #[v0_, .int .i64 r2]) ∧ Kd.R k57 57 w' w.heap.size (fun _ => True) v0_ r1 ∧ Below w.heap.size w w' := by
 have hu57 := Try.underlying57
 have HR1 := Aside0.mk hr1
 have HC1 := Aside0.mk hc1
 clear hr1 hc1
 have HB := Aside0.mk (Below.refl w.heap.size w)
 have H : ((slit_Check.f a0 l1).bind fun t112 => (if t112 = 0 then ((api_Strip_32.f l1).bind fun t113 => (if t113.length < 8796093022208 then ((some (t113 ++ [(⟨a0, 0⟩ : S57)] : List (S57))).bind fun y116 => (slit_Trim.l0 k ([] : List (S57)) 0 y116 (y116.length : Int) 0)) else (none))) else (some (([] : List (S57)), t112)))) = some (r1, r2) := h
 clear h
 replace H := Option.bind_eq_some_iff.mp H
 obtain ⟨t112, A30, H⟩ := H
 replace H : (if t112 = 0 then ((api_Strip_32.f l1).bind fun t113 => (if t113.length < 8796093022208 then ((some (t113 ++ [(⟨a0, 0⟩ : S57)] : List (S57))).bind fun y116 => (slit_Trim.l0 k ([] : List (S57)) 0 y116 (y116.length : Int) 0)) else (none))) else (some (([] : List (S57)), t112))) = some (r1, r2) := H
 have A3 := Aside0.mk A30
 clear A30
 by_cases c4 : t112 = 0
 ·rw [if_pos c4] at H
  have c4b0 : (t112 == 0) = true := beq_iff_eq.mpr c4
  have c4b1 : (t112 != 0) = false := bne_eq_false_iff_eq.mpr c4
  clear c4
  replace H := Option.bind_eq_some_iff.mp H
  obtain ⟨t113, A50, H⟩ := H
  replace H : (if t113.length < 8796093022208 then ((some (t113 ++ [(⟨a0, 0⟩ : S57)] : List (S57))).bind fun y116 => (slit_Trim.l0 k ([] : List (S57)) 0 y116 (y116.length : Int) 0)) else (none)) = some (r1, r2) := H
  have A5 := Aside0.mk A50
  clear A50
  by_cases c6 : t113.length < 8796093022208
  ·rw [if_pos c6] at H
   have LMc6 := Aside0.mk c6
   clear c6
   obtain ⟨y116, hy116⟩ : ∃ y_ : List (S57), y_ = (t113 ++ [(⟨a0, 0⟩ : S57)]) := ⟨_, rfl⟩
   replace H : (slit_Trim.l0 k ([] : List (S57)) 0 y116 (y116.length : Int) 0) = some (r1, r2) := by first | (rw [hy116]; with_reducible exact H) | (have H2_ := (Option.bind_some _ _).symm.trans H; rw [hy116]; with_reducible exact H2_) | (have H2_ := (Option.bind_some _ _).symm.trans H; with_reducible exact H2_) | with_reducible exact H | (rw [hy116]; exact H) | exact H
   have Ny116 := Aside0.mk hy116
   clear hy116
   have H' := Aside0.mk H
   clear H
   go_enter Try.func12, Try.ntmps12
   go_wp2_with (first | ((with_reducible refine gate_callee (f := 14) rfl ?_); refine goesL_ (some 13) rfl rfl Try.func14 (by kernel_rfl) rfl #[.int .i64 a0, .slice A1 l1.length c1] rfl (by (try simp only [List.map_toArray, List.map_cons, List.map_nil]); first | done | rfl | (simp only [List.length_drop, List.length_take]; rfl)) ?_; (with_reducible refine (slit_Check.calls a0 _ _ l1 t112 _ ?side1 ?side2 A3.out).mono ?_); (case side1 => repeat (first | exact HR1.out | (with_reducible refine Kd.C_alloc ?_ _) | (with_reducible refine Kd.C_drewN ?_ _) | (with_reducible refine Kd.C_drew ?_))); (case side2 => exact HC1.out); rintro e w7 ⟨rfl, hb⟩; refine ⟨_, rfl, ?_⟩; have n0_ := Aside0.mk (below_step (by repeat (first | (with_reducible first | exact HB.out | apply below_alloc | apply pw_below_drewN | apply below_drew1) | exact HB.out)) hb); clear HB; have HB := n0_; clear n0_; (try clear hb); (try clear hb2); (try clear hk); (try clear hi)) | ((with_reducible refine gate_callee (f := 32) rfl ?_); refine goesL_ (some 18) rfl rfl Try.func32 (by kernel_rfl) rfl #[.slice A1 l1.length c1] rfl (by (try simp only [List.map_toArray, List.map_cons, List.map_nil]); first | done | rfl | (simp only [List.length_drop, List.length_take]; rfl)) ?_; (with_reducible refine (api_Strip_32.calls _ _ l1 t113 _ ?side1 ?side2 A5.out).mono ?_); (case side1 => repeat (first | exact (Kd.C_below HR1.out HB.out) | (with_reducible refine Kd.C_alloc ?_ _) | (with_reducible refine Kd.C_drewN ?_ _) | (with_reducible refine Kd.C_drew ?_))); (case side2 => exact HC1.out); rintro e w8 ⟨v114, rfl, ho0, hb⟩; refine ⟨_, rfl, ?_⟩; have n0_ := Aside0.mk (Kd.R_lower ho0 (below_size (by repeat (first | (with_reducible first | exact HB.out | apply below_alloc | apply pw_below_drewN | apply below_drew1) | exact HB.out)))); have n1_ := Aside0.mk (below_step (by repeat (first | (with_reducible first | exact HB.out | apply below_alloc | apply pw_below_drewN | apply below_drew1) | exact HB.out)) hb); clear HB; have HO115 := n0_; have HB := n1_; clear n0_ n1_; (try clear hb); (try clear hb2); (try clear hk); (try clear hi); (try clear ho0)) | ((with_reducible refine gate_builtin (b := .append) (xs := #[.tmp 18, .tmp 21]) rfl ?_); at_builtin; refine Kd.R_append k57 (w0 := w) w.heap.size rfl (.tmp 18) (.tmp 21) 22 57 (.agg #[(.int .i64 0), (.int .i64 0)]) 16 rfl Try.underlying22 info57 rfl (by decide) (by omega) v114 t113 (⟨a0, 0⟩ : S57) [.int .i64 a0, .int .i64 0] (fun _ => True) (fun _ => False) rfl rfl ?aP (fun _ hk => hk.elim) ?aF ?aO ?aB ?aS ?aL ?_; (case aP => exact k57_mkM _ _ _ (⟨a0, 0⟩ : S57)); (case aB => exact (by repeat (first | (with_reducible first | exact HB.out | apply below_alloc | apply pw_below_drewN | apply below_drew1) | exact HB.out))); (case aF => exact (fun _ _ => trivial)); (case aO => exact (by (with_reducible repeat (first | apply Kd.R_alloc | apply Kd.R_drewN | apply Kd.R_drew)); exact HO115.out)); (case aS => exact (below_size (by repeat (first | (with_reducible first | exact HB.out | apply below_alloc | apply pw_below_drewN | apply below_drew1) | exact HB.out)))); (case aL => have := LMc6.out; omega); intro v117 w9 ho hb hg hat; rw [← Ny116.out] at ho; have n0_ := Aside0.mk (hb); have n1_ := Aside0.mk (ho); clear HB; clear HO115; have HB := n0_; have HO118 := n1_; clear n0_ n1_; clear ho hb hg hat; obtain ⟨Ao10, co10, eo10⟩ := Kd.R_slice HO118.out; subst eo10))
   go_loopg [7, 8, 24] k (fun kq v7 v8 v24 w' => ∃ (x7_1 : List (S57)) (x8_1 : Int) (x24_1 : Int), v8 = .int .i64 x8_1 ∧ v24 = .int .i64 x24_1 ∧ Aside0 (slit_Trim.l0 kq x7_1 x8_1 y116 (y116.length : Int) x24_1 = some (r1, r2)) ∧ Aside0 (kq ≤ k) ∧ Aside0 (Kd.R k57 57 w' w.heap.size (fun k_ => some k_ ≠ ((.slice Ao10 y116.length co10) : Value).ownBlock) v7 x7_1) ∧ Aside0 (Kd.R k57 57 w' w.heap.size (fun k_ => some k_ ≠ (v7 : Value).ownBlock) (.slice Ao10 y116.length co10) y116) ∧ Aside0 (Below w.heap.size w w'))
   case atStart => exact ⟨(([] : List (S57))), (0), (0), (by first | rfl | (simp; done) | (simp [*]; done)), (by first | rfl | (simp; done) | (simp [*]; done)), H', ⟨Nat.le_refl _⟩, ⟨by first | exact Kd.R_nil _ _ _ _ _ | exact Kd.N_nil _ _ _ _ _ | exact Kd.V_nil _ _ _ _ _ | exact Kd.Q_nil _ _ _ _ _ | exact Kd.S_nil _ _ _ _ _⟩, ⟨by (with_reducible repeat (first | apply Kd.R_alloc | apply Kd.R_drewN | apply Kd.R_drew)); exact Kd.R_mono HO118.out (fun _ hk => (by simp [Value.ownBlock]))⟩, ⟨by repeat (first | (with_reducible first | exact HB.out | apply below_alloc | apply pw_below_drewN | apply below_drew1) | exact HB.out)⟩⟩
   case round =>
    clear H'
    try clear c1
    try clear p2
    try clear c3
    try clear c4
    try clear c4b0
    try clear c4b1
    try clear c6
    obtain ⟨x7_1, x8_1, x24_1, rfl, rfl, HA, HK1, HO_7, HO_22, HB⟩ := hrel
    cases gk with
    | zero => exact absurd HA.out (by simp [slit_Trim.l0])
    | succ k1 =>
     have H := HA.out
     clear HA
     simp only [slit_Trim.l0] at H
     by_cases c11 : x24_1 < (y116.length : Int)
     ·rw [if_pos c11] at H
      have c11b0 : decide (x24_1 < (y116.length : Int)) = true := decide_eq_true c11
      clear c11
      by_cases c12 : 0 ≤ x24_1
      ·rw [if_pos c12] at H
       have c12b0 : decide (0 ≤ x24_1) = true := decide_eq_true c12
       clear c12
       by_cases c13 : x24_1 < (y116.length : Int)
       ·rw [if_pos c13] at H
        have c13b0 : decide (x24_1 < (y116.length : Int)) = true := decide_eq_true c13
        clear c13
        by_cases c14 : ((rd_T57 y116 x24_1).f0) > x8_1
        ·rw [if_pos c14] at H
         have c14b0 : decide (x8_1 < ((rd_T57 y116 x24_1).f0)) = true := decide_eq_true c14
         clear c14
         by_cases c15 : x7_1.length < 8796093022208
         ·rw [if_pos c15] at H
          have LMc15 := Aside0.mk c15
          clear c15
          obtain ⟨y121, hy121⟩ : ∃ y_ : List (S57), y_ = (x7_1 ++ [(⟨x8_1, wrap64 (((rd_T57 y116 x24_1).f0) - x8_1)⟩ : S57)]) := ⟨_, rfl⟩
          replace H : (slit_Trim.l0 k1 y121 (wrap64 (((rd_T57 y116 x24_1).f0) + ((rd_T57 y116 x24_1).f1))) y116 (y116.length : Int) (wrap64 (x24_1 + 1))) = some (r1, r2) := by first | (rw [hy121]; with_reducible exact H) | (have H2_ := (Option.bind_some _ _).symm.trans H; rw [hy121]; with_reducible exact H2_) | (have H2_ := (Option.bind_some _ _).symm.trans H; with_reducible exact H2_) | with_reducible exact H | (rw [hy121]; exact H) | exact H
          have Ny121 := Aside0.mk hy121
          clear hy121
          have H' := Aside0.mk H
          clear H
          have p119 : 0 ≤ (x24_1 : Int) := of_decide_eq_true (by first | (with_reducible assumption) | assumption)
          have q119 : x24_1 < (y116.length : Int) := of_decide_eq_true (by first | (with_reducible assumption) | assumption)
          obtain ⟨ad119, e119, hx119_0, hx119_1⟩ := at_T57 (Kd.R_reads' HO_22.out).2.2 x24_1 p119 q119
          cases e119
          replace p119 := eq_true p119
          replace q119 := eq_true q119
          go_wp2_with (first | ((with_reducible refine gate_dst (N := 10) rfl ?_); refine box_event ?hg (N := 10) ?hd (cs := #[.int .i64 0, .int .i64 0]) (t := 57) ?hr ?_; (case hd => rfl); (case hg => rfl); (case hr => first | (go_simp; done) | (go_simp; rfl)); intro gb120 hg w16 hbox hb; have n0_ := Aside0.mk (Kd.R_below (Kd.R_elderB (by (with_reducible repeat (first | apply Kd.R_alloc | apply Kd.R_drewN | apply Kd.R_drew)); exact HO_7.out) gb120 (Nat.le_of_eq hg.symm)) hb); have n1_ := Aside0.mk (Kd.R_below (Kd.R_elderB (by (with_reducible repeat (first | apply Kd.R_alloc | apply Kd.R_drewN | apply Kd.R_drew)); exact HO_22.out) gb120 (Nat.le_of_eq hg.symm)) hb); have n2_ := Aside0.mk (below_step (by repeat (first | (with_reducible first | exact HB.out | apply below_alloc | apply pw_below_drewN | apply below_drew1) | exact HB.out)) hb); have n3_ := Aside0.mk (hbox); have n4_ := Aside0.mk ((by rw [hg]; exact (below_size (by repeat (first | (with_reducible first | exact HB.out | apply below_alloc | apply pw_below_drewN | apply below_drew1) | exact HB.out))) : w.heap.size ≤ gb120)); have n5_ := Aside0.mk ((by rw [hg]; exact (below_size (by repeat (first | (with_reducible first | exact HB.out | apply below_alloc | apply pw_below_drewN | apply below_drew1) | exact HB.out))) : w.heap.size ≤ gb120)); clear HO_7; clear HO_22; clear HB; have HO_7 := n0_; have HO_22 := n1_; have HB := n2_; have BK120 := n3_; have GW120 := n4_; have GE120 := n5_; clear n0_ n1_ n2_ n3_ n4_ n5_; clear hb hbox hg; have hcz17_0 : w16.cell? ⟨gb120, 0, none⟩ = some (.int .i64 0) := (blk_cell BK120.out 0).trans rfl; have hcz17_1 : w16.cell? ⟨gb120, 1, none⟩ = some (.int .i64 0) := (blk_cell BK120.out 1).trans rfl; have hfz17_0 := blk_frozen BK120.out 0; have hfz17_1 := blk_frozen BK120.out 1) | ((with_reducible refine gate_builtin (b := .append) (xs := #[.tmp 32, .tmp 39]) rfl ?_); at_builtin; refine Kd.R_append k57 (w0 := w) w.heap.size rfl (.tmp 32) (.tmp 39) 22 57 (.agg #[(.int .i64 0), (.int .i64 0)]) 16 rfl Try.underlying22 info57 rfl (by decide) (by omega) u7 x7_1 (⟨x8_1, wrap64 (((rd_T57 y116 x24_1).f0) - x8_1)⟩ : S57) [.int .i64 x8_1, .int .i64 (wrap64 (((rd_T57 y116 x24_1).f0) - x8_1))] (fun k_ => some k_ ≠ (.slice (some ad119) y116.length co10 : Value).ownBlock ∧ k_ ≠ gb120) (fun _ => False) rfl (by first | (go_simp; done) | (go_simp; rfl)) ?aP (fun _ hk => hk.elim) ?aF ?aO ?aB ?aS ?aL ?_; (case aP => exact k57_mkM _ _ _ (⟨x8_1, wrap64 (((rd_T57 y116 x24_1).f0) - x8_1)⟩ : S57)); (case aB => exact (by repeat (first | (with_reducible first | exact HB.out | apply below_alloc | apply pw_below_drewN | apply below_drew1 | refine below_set ?_ GE120.out) | exact HB.out))); (case aF => exact (fun k_ hk => ⟨Kd.fresh' (Kd.R_lt (by (with_reducible repeat (first | apply Kd.R_alloc | apply Kd.R_drewN | apply Kd.R_drew)); exact (Kd.R_mono (Kd.R_far (p := ⟨gb120, 1, none⟩) (Kd.R_far (p := ⟨gb120, 0, none⟩) (Kd.R_mono HO_22.out (fun k_ hk => (⟨hk, hk.2⟩ : _ ∧ k_ ≠ gb120))) (fun _ hk => hk.2) (.int .i64 ((rd_T57 y116 x24_1).f0))) (fun _ hk => hk.2) (.int .i64 ((rd_T57 y116 x24_1).f1))) (fun _ h_ => h_.1)))) k_ hk, Kd.freshB (g := gb120) (o := .cells #[.int .i64 ((rd_T57 y116 x24_1).f0), .int .i64 ((rd_T57 y116 x24_1).f1)] 57 (0, 0)) (by (with_reducible repeat (first | refine blk_drewN ?_ _ | refine blk_drew ?_ | refine blk_alloc ?_ _)); refine blk_put (cs := #[.int .i64 ((rd_T57 y116 x24_1).f0), .int .i64 0]) ?_ 1 _ rfl; (with_reducible repeat (first | refine blk_drewN ?_ _ | refine blk_drew ?_ | refine blk_alloc ?_ _)); refine blk_put (cs := #[.int .i64 0, .int .i64 0]) ?_ 0 _ rfl; (with_reducible repeat (first | refine blk_drewN ?_ _ | refine blk_drew ?_ | refine blk_alloc ?_ _)); exact BK120.out) k_ hk⟩)); (case aO => exact (by (with_reducible repeat (first | apply Kd.R_alloc | apply Kd.R_drewN | apply Kd.R_drew)); exact Kd.R_mono (Kd.R_far (p := ⟨gb120, 1, none⟩) (Kd.R_far (p := ⟨gb120, 0, none⟩) (Kd.R_mono HO_7.out (fun k_ hk => (⟨hk, hk.2⟩ : _ ∧ k_ ≠ gb120))) (fun _ hk => hk.2) (.int .i64 ((rd_T57 y116 x24_1).f0))) (fun _ hk => hk.2) (.int .i64 ((rd_T57 y116 x24_1).f1))) (fun _ hk => ⟨hk.1.1, hk.1.2⟩))); (case aS => exact (below_size (by repeat (first | (with_reducible first | exact HB.out | apply below_alloc | apply pw_below_drewN | apply below_drew1 | refine below_set ?_ GE120.out) | exact HB.out)))); (case aL => have := LMc15.out; omega); intro v122 w18 ho hb hg hat; rw [← Ny121.out] at ho; have n0_ := Aside0.mk (Kd.R_after (ok := (fun k_ => k_ ≠ gb120)) (by (with_reducible repeat (first | apply Kd.R_alloc | apply Kd.R_drewN | apply Kd.R_drew)); exact Kd.R_mono (Kd.R_far (p := ⟨gb120, 1, none⟩) (Kd.R_far (p := ⟨gb120, 0, none⟩) (Kd.R_mono HO_22.out (fun k_ hk => (⟨hk, hk.2⟩ : _ ∧ k_ ≠ gb120))) (fun _ hk => hk.2) (.int .i64 ((rd_T57 y116 x24_1).f0))) (fun _ hk => hk.2) (.int .i64 ((rd_T57 y116 x24_1).f1))) (fun _ hk => ⟨hk.1.2, hk.1.1⟩)) hg hat); have n1_ := Aside0.mk (blk_grown (g := gb120) (o := .cells #[.int .i64 ((rd_T57 y116 x24_1).f0), .int .i64 ((rd_T57 y116 x24_1).f1)] 57 (0, 0)) (by (with_reducible repeat (first | refine blk_drewN ?_ _ | refine blk_drew ?_ | refine blk_alloc ?_ _)); refine blk_put (cs := #[.int .i64 ((rd_T57 y116 x24_1).f0), .int .i64 0]) ?_ 1 _ rfl; (with_reducible repeat (first | refine blk_drewN ?_ _ | refine blk_drew ?_ | refine blk_alloc ?_ _)); refine blk_put (cs := #[.int .i64 0, .int .i64 0]) ?_ 0 _ rfl; (with_reducible repeat (first | refine blk_drewN ?_ _ | refine blk_drew ?_ | refine blk_alloc ?_ _)); exact BK120.out) hg (Kd.R_away HO_7.out (fun _ hk => hk.2))); have n2_ := Aside0.mk (hb); have n3_ := Aside0.mk (ho); clear HO_22; clear BK120; clear HB; clear HO_7; have HO_22 := n0_; have BK120 := n1_; have HB := n2_; have HO123 := n3_; clear n0_ n1_ n2_ n3_; clear ho hb hg hat; have hcz19_0 : w18.cell? ⟨gb120, 0, none⟩ = some (.int .i64 ((rd_T57 y116 x24_1).f0)) := (blk_cell BK120.out 0).trans rfl; have hcz19_1 : w18.cell? ⟨gb120, 1, none⟩ = some (.int .i64 ((rd_T57 y116 x24_1).f1)) := (blk_cell BK120.out 1).trans rfl; have hfz19_0 := blk_frozen BK120.out 0; have hfz19_1 := blk_frozen BK120.out 1))
          go_roundg k1
          case measure => have := HK1.out; omega
          case rel => exact ⟨(y121), (wrap64 (((rd_T57 y116 x24_1).f0) + ((rd_T57 y116 x24_1).f1))), (wrap64 (x24_1 + 1)), (by first | rfl | (simp; done) | (simp [*]; done)), (by first | rfl | (simp; done) | (simp [*]; done)), H', ⟨by have := HK1.out; omega⟩, ⟨by (with_reducible repeat (first | apply Kd.R_alloc | apply Kd.R_drewN | apply Kd.R_drew)); exact Kd.R_mono HO123.out (fun _ hk => hk.1)⟩, ⟨by (with_reducible repeat (first | apply Kd.R_alloc | apply Kd.R_drewN | apply Kd.R_drew)); exact Kd.R_mono HO_22.out (fun _ hk => hk.2)⟩, ⟨by repeat (first | (with_reducible first | exact HB.out | apply below_alloc | apply pw_below_drewN | apply below_drew1 | refine below_set ?_ GE120.out) | exact HB.out)⟩⟩
         ·rw [if_neg c15] at H
          exact absurd H (by simp)
        ·rw [if_neg c14] at H
         have c14b0 : decide (x8_1 < ((rd_T57 y116 x24_1).f0)) = false := decide_eq_false c14
         clear c14
         have H' := Aside0.mk H
         clear H
         have p119 : 0 ≤ (x24_1 : Int) := of_decide_eq_true (by first | (with_reducible assumption) | assumption)
         have q119 : x24_1 < (y116.length : Int) := of_decide_eq_true (by first | (with_reducible assumption) | assumption)
         obtain ⟨ad119, e119, hx119_0, hx119_1⟩ := at_T57 (Kd.R_reads' HO_22.out).2.2 x24_1 p119 q119
         cases e119
         replace p119 := eq_true p119
         replace q119 := eq_true q119
         go_wp2_with (first | ((with_reducible refine gate_dst (N := 10) rfl ?_); refine box_event ?hg (N := 10) ?hd (cs := #[.int .i64 0, .int .i64 0]) (t := 57) ?hr ?_; (case hd => rfl); (case hg => rfl); (case hr => first | (go_simp; done) | (go_simp; rfl)); intro gb120 hg w20 hbox hb; have n0_ := Aside0.mk (Kd.R_below (Kd.R_elderB (by (with_reducible repeat (first | apply Kd.R_alloc | apply Kd.R_drewN | apply Kd.R_drew)); exact HO_7.out) gb120 (Nat.le_of_eq hg.symm)) hb); have n1_ := Aside0.mk (Kd.R_below (Kd.R_elderB (by (with_reducible repeat (first | apply Kd.R_alloc | apply Kd.R_drewN | apply Kd.R_drew)); exact HO_22.out) gb120 (Nat.le_of_eq hg.symm)) hb); have n2_ := Aside0.mk (below_step (by repeat (first | (with_reducible first | exact HB.out | apply below_alloc | apply pw_below_drewN | apply below_drew1) | exact HB.out)) hb); have n3_ := Aside0.mk (hbox); have n4_ := Aside0.mk ((by rw [hg]; exact (below_size (by repeat (first | (with_reducible first | exact HB.out | apply below_alloc | apply pw_below_drewN | apply below_drew1) | exact HB.out))) : w.heap.size ≤ gb120)); have n5_ := Aside0.mk ((by rw [hg]; exact (below_size (by repeat (first | (with_reducible first | exact HB.out | apply below_alloc | apply pw_below_drewN | apply below_drew1) | exact HB.out))) : w.heap.size ≤ gb120)); clear HO_7; clear HO_22; clear HB; have HO_7 := n0_; have HO_22 := n1_; have HB := n2_; have BK120 := n3_; have GW120 := n4_; have GE120 := n5_; clear n0_ n1_ n2_ n3_ n4_ n5_; clear hb hbox hg; have hcz21_0 : w20.cell? ⟨gb120, 0, none⟩ = some (.int .i64 0) := (blk_cell BK120.out 0).trans rfl; have hcz21_1 : w20.cell? ⟨gb120, 1, none⟩ = some (.int .i64 0) := (blk_cell BK120.out 1).trans rfl; have hfz21_0 := blk_frozen BK120.out 0; have hfz21_1 := blk_frozen BK120.out 1))
         go_roundg k1
         case measure => have := HK1.out; omega
         case rel => exact ⟨(x7_1), (wrap64 (((rd_T57 y116 x24_1).f0) + ((rd_T57 y116 x24_1).f1))), (wrap64 (x24_1 + 1)), (by first | rfl | (simp; done) | (simp [*]; done)), (by first | rfl | (simp; done) | (simp [*]; done)), H', ⟨by have := HK1.out; omega⟩, ⟨by (with_reducible repeat (first | apply Kd.R_alloc | apply Kd.R_drewN | apply Kd.R_drew)); exact Kd.R_mono (Kd.R_far (p := ⟨gb120, 1, none⟩) (Kd.R_far (p := ⟨gb120, 0, none⟩) (Kd.R_mono HO_7.out (fun k_ hk => (⟨hk, hk.2⟩ : _ ∧ k_ ≠ gb120))) (fun _ hk => hk.2) (.int .i64 ((rd_T57 y116 x24_1).f0))) (fun _ hk => hk.2) (.int .i64 ((rd_T57 y116 x24_1).f1))) (fun _ hk => hk.1.1)⟩, ⟨by (with_reducible repeat (first | apply Kd.R_alloc | apply Kd.R_drewN | apply Kd.R_drew)); exact Kd.R_mono (Kd.R_far (p := ⟨gb120, 1, none⟩) (Kd.R_far (p := ⟨gb120, 0, none⟩) (Kd.R_mono HO_22.out (fun k_ hk => (⟨hk, hk.2⟩ : _ ∧ k_ ≠ gb120))) (fun _ hk => hk.2) (.int .i64 ((rd_T57 y116 x24_1).f0))) (fun _ hk => hk.2) (.int .i64 ((rd_T57 y116 x24_1).f1))) (fun _ hk => hk.1.1)⟩, ⟨by repeat (first | (with_reducible first | exact HB.out | apply below_alloc | apply pw_below_drewN | apply below_drew1 | refine below_set ?_ GE120.out) | exact HB.out)⟩⟩
       ·rw [if_neg c13] at H
        exact absurd H (by simp)
      ·rw [if_neg c12] at H
       exact absurd H (by simp)
     ·rw [if_neg c11] at H
      have c11b0 : decide (x24_1 < (y116.length : Int)) = false := decide_eq_false c11
      clear c11
      simp only [Option.some.injEq, Prod.mk.injEq] at H
      obtain ⟨rfl, rfl⟩ := H
      go_wp2
      go_ret2
      exact ⟨_, by first | rfl | (simp [errW_none, errW_some] <;> rfl) | (simp [*, errW_none, errW_some] <;> rfl), by (with_reducible repeat (first | apply Kd.R_alloc | apply Kd.R_drewN | apply Kd.R_drew)); exact Kd.R_mono HO_7.out (fun _ hk => trivial), by repeat (first | (with_reducible first | exact HB.out | apply below_alloc | apply pw_below_drewN | apply below_drew1) | exact HB.out)⟩
  ·rw [if_neg c6] at H
   exact absurd H (by simp)
 ·rw [if_neg c4] at H
  have c4b0 : (t112 == 0) = false := beq_eq_false_iff_ne.mpr c4
  have c4b1 : (t112 != 0) = true := bne_iff_ne.mpr c4
  simp only [Option.some.injEq, Prod.mk.injEq] at H
  obtain ⟨rfl, rfl⟩ := H
  go_enter Try.func12, Try.ntmps12
  go_wp2_with (first | ((with_reducible refine gate_callee (f := 14) rfl ?_); refine goesL_ (some 13) rfl rfl Try.func14 (by kernel_rfl) rfl #[.int .i64 a0, .slice A1 l1.length c1] rfl (by (try simp only [List.map_toArray, List.map_cons, List.map_nil]); first | done | rfl | (simp only [List.length_drop, List.length_take]; rfl)) ?_; (with_reducible refine (slit_Check.calls a0 _ _ l1 t112 _ ?side1 ?side2 A3.out).mono ?_); (case side1 => repeat (first | exact HR1.out | (with_reducible refine Kd.C_alloc ?_ _) | (with_reducible refine Kd.C_drewN ?_ _) | (with_reducible refine Kd.C_drew ?_))); (case side2 => exact HC1.out); rintro e w22 ⟨rfl, hb⟩; refine ⟨_, rfl, ?_⟩; have n0_ := Aside0.mk (below_step (by repeat (first | (with_reducible first | exact HB.out | apply below_alloc | apply pw_below_drewN | apply below_drew1) | exact HB.out)) hb); clear HB; have HB := n0_; clear n0_; (try clear hb); (try clear hb2); (try clear hk); (try clear hi)))
  go_ret2
  exact ⟨_, by first | rfl | (simp [errW_none, errW_some] <;> rfl) | (simp [*, errW_none, errW_some] <;> rfl), by first | exact Kd.R_nil _ _ _ _ _ | exact Kd.N_nil _ _ _ _ _ | exact Kd.V_nil _ _ _ _ _ | exact Kd.Q_nil _ _ _ _ _ | exact Kd.S_nil _ _ _ _ _, by repeat (first | (with_reducible first | exact HB.out | apply below_alloc | apply pw_below_drewN | apply below_drew1) | exact HB.out)⟩


attribute [local go_sem high] eqA57
/-! ### papermillref39_Same: function 16 -/
def papermillref39_Same.l0 : Nat → List (S57) → List (S57) → Int → Option (Bool)
 | 0, _, _, _ => none
 | k + 1, x0, x1, x5 => if x5 < (x0.length : Int) then (if 0 ≤ x5 then (if x5 < (x1.length : Int) then (if (!(((rd_T57 x0 x5).f0) == ((rd_T57 x1 x5).f0)) || (!(((rd_T57 x0 x5).f1) == ((rd_T57 x1 x5).f1)))) = true then (some false) else (papermillref39_Same.l0 k x0 x1 (wrap64 (x5 + 1)))) else (none)) else (none)) else (some true)
def papermillref39_Same.f (k : Nat) (l0 : List (S57)) (l1 : List (S57)) : Option (Bool) := if (l0.length : Int) = (l1.length : Int) then (papermillref39_Same.l0 k l0 l1 0) else (some false)
theorem papermillref39_Same.mono_l : ∀ k, (∀ y0 y1 y2, LeO (papermillref39_Same.l0 k y0 y1 y2) (papermillref39_Same.l0 (k + 1) y0 y1 y2))
 | 0 => fun _ _ _ r h => by simp [papermillref39_Same.l0] at h
 | k + 1 => by
  have ih0 := papermillref39_Same.mono_l k
  ·intro y0 y1 y2
   unfold papermillref39_Same.l0
   repeat' first
   | (with_reducible exact ih0 _ _ _)
   | (with_reducible exact LeO.refl _)
   | (with_reducible exact LeO.none _)
   | (with_reducible refine LeO.ite ?_ ?_)
   | (with_reducible refine LeO.bind ?_ (fun _ => ?_))
   | exact ih0 _ _ _
   | exact LeO.none _
   | refine LeO.ite ?_ ?_
   | refine LeO.bind ?_ (fun _ => ?_)
theorem papermillref39_Same.mono : ∀ a0 a1 k, LeO (papermillref39_Same.f k a0 a1) (papermillref39_Same.f (k + 1) a0 a1) := by
 intro a0 a1 k
 have ih0 := papermillref39_Same.mono_l k
 unfold papermillref39_Same.f
 repeat' first
   | (with_reducible exact ih0 _ _ _)
   | (with_reducible exact LeO.refl _)
   | (with_reducible exact LeO.none _)
   | (with_reducible refine LeO.ite ?_ ?_)
   | (with_reducible refine LeO.bind ?_ (fun _ => ?_))
   | exact ih0 _ _ _
   | exact LeO.none _
   | refine LeO.ite ?_ ?_
   | refine LeO.bind ?_ (fun _ => ?_)
set_option maxHeartbeats 8000000 in
set_option maxRecDepth 100000 in
theorem papermillref39_Same.calls (k : Nat) (A0 : Option Addr) (c0 : Nat) (l0 : List (S57)) (A1 : Option Addr) (c1 : Nat) (l1 : List (S57)) (r : Bool) (w : World) (hr0 : Kd.C k57 w A0 l0.length l0) (hc0 : l0.length ≤ c0) (hr1 : Kd.C k57 w A1 l1.length l1) (hc1 : l1.length ≤ c1) (h : papermillref39_Same.f k l0 l1 = some r) :
  Calls Try.prog 16 #[.slice A0 l0.length c0, .slice A1 l1.length c1] w fun e w' => e = .returned (.bool r) ∧ Drawn0 w w' := by
 have hu57 := Try.underlying57
 have HR0 := Aside0.mk hr0
 have HC0 := Aside0.mk hc0
 clear hr0 hc0
 have HR1 := Aside0.mk hr1
 have HC1 := Aside0.mk hc1
 clear hr1 hc1
 have H : (if (l0.length : Int) = (l1.length : Int) then (papermillref39_Same.l0 k l0 l1 0) else (some false)) = some r := h
 clear h
 by_cases c3 : (l0.length : Int) = (l1.length : Int)
 ·rw [if_pos c3] at H
  have c3b0 : ((l0.length : Int) == (l1.length : Int)) = true := beq_iff_eq.mpr c3
  have c3b1 : ((l0.length : Int) != (l1.length : Int)) = false := bne_eq_false_iff_eq.mpr c3
  have c3b2 : (l0.length == l1.length) = true := by first | simpa using c3 | (simp at c3 ⊢; omega)
  clear c3
  have H' := Aside0.mk H
  clear H
  go_enter Try.func16, Try.ntmps16
  go_wp2
  repeat (go_quiet (fail); try go_wp2)
  go_loopg [5] k (fun kq v5 w' => ∃ (x5_1 : Int), v5 = .int .i64 x5_1 ∧ Aside0 (papermillref39_Same.l0 kq l0 l1 x5_1 = some r) ∧ Aside0 (kq ≤ k) ∧ Drawn0 w w')
  case atStart => exact ⟨(0), (by first | rfl | (simp; done) | (simp [*]; done)), H', ⟨Nat.le_refl _⟩, by repeat (first | exact Drawn0.refl _ | apply Drawn0.step)⟩
  case round =>
   clear H'
   try clear c1
   try clear p2
   try clear c3
   try clear c3b0
   try clear c3b1
   try clear c3b2
   obtain ⟨x5_1, rfl, HA, HK1, ⟨m1, rfl⟩⟩ := hrel
   cases gk with
   | zero => exact absurd HA.out (by simp [papermillref39_Same.l0])
   | succ k1 =>
    have H := HA.out
    clear HA
    simp only [papermillref39_Same.l0] at H
    by_cases c4 : x5_1 < (l0.length : Int)
    ·rw [if_pos c4] at H
     have c4b0 : decide (x5_1 < (l0.length : Int)) = true := decide_eq_true c4
     clear c4
     by_cases c5 : 0 ≤ x5_1
     ·rw [if_pos c5] at H
      have c5b0 : decide (0 ≤ x5_1) = true := decide_eq_true c5
      clear c5
      by_cases c6 : x5_1 < (l1.length : Int)
      ·rw [if_pos c6] at H
       have c6b0 : decide (x5_1 < (l1.length : Int)) = true := decide_eq_true c6
       clear c6
       by_cases c7 : (!(((rd_T57 l0 x5_1).f0) == ((rd_T57 l1 x5_1).f0)) || (!(((rd_T57 l0 x5_1).f1) == ((rd_T57 l1 x5_1).f1)))) = true
       ·rw [if_pos c7] at H
        have c7b0 : (!(((rd_T57 l0 x5_1).f0) == ((rd_T57 l1 x5_1).f0)) || (!(((rd_T57 l0 x5_1).f1) == ((rd_T57 l1 x5_1).f1)))) = true := c7
        clear c7
        obtain rfl := Option.some.inj H
        have p124 : 0 ≤ (x5_1 : Int) := of_decide_eq_true (by first | (with_reducible assumption) | assumption)
        have q124 : x5_1 < (l0.length : Int) := of_decide_eq_true (by first | (with_reducible assumption) | assumption)
        obtain ⟨ad124, e124, hx124_0, hx124_1⟩ := at_T57 HR0.out x5_1 p124 q124
        cases e124
        replace p124 := eq_true p124
        replace q124 := eq_true q124
        have p125 : 0 ≤ (x5_1 : Int) := of_decide_eq_true (by first | (with_reducible assumption) | assumption)
        have q125 : x5_1 < (l1.length : Int) := of_decide_eq_true (by first | (with_reducible assumption) | assumption)
        obtain ⟨ad125, e125, hx125_0, hx125_1⟩ := at_T57 HR1.out x5_1 p125 q125
        cases e125
        replace p125 := eq_true p125
        replace q125 := eq_true q125
        go_wp2
        repeat (go_quiet (fail); try go_wp2)
        go_ret
        exact ⟨by first | rfl | (simp; done) | (simp [*]; done), by repeat (first | exact Drawn0.refl _ | apply Drawn0.step)⟩
       ·rw [if_neg c7] at H
        have c7b0 : (!(((rd_T57 l0 x5_1).f0) == ((rd_T57 l1 x5_1).f0)) || (!(((rd_T57 l0 x5_1).f1) == ((rd_T57 l1 x5_1).f1)))) = false := by simpa using c7
        clear c7
        have H' := Aside0.mk H
        clear H
        have p124 : 0 ≤ (x5_1 : Int) := of_decide_eq_true (by first | (with_reducible assumption) | assumption)
        have q124 : x5_1 < (l0.length : Int) := of_decide_eq_true (by first | (with_reducible assumption) | assumption)
        obtain ⟨ad124, e124, hx124_0, hx124_1⟩ := at_T57 HR0.out x5_1 p124 q124
        cases e124
        replace p124 := eq_true p124
        replace q124 := eq_true q124
        have p125 : 0 ≤ (x5_1 : Int) := of_decide_eq_true (by first | (with_reducible assumption) | assumption)
        have q125 : x5_1 < (l1.length : Int) := of_decide_eq_true (by first | (with_reducible assumption) | assumption)
        obtain ⟨ad125, e125, hx125_0, hx125_1⟩ := at_T57 HR1.out x5_1 p125 q125
        cases e125
        replace p125 := eq_true p125
        replace q125 := eq_true q125
        go_wp2
        repeat (go_quiet (fail); try go_wp2)
        go_roundg k1
        case measure => have := HK1.out; omega
        case rel => exact ⟨(wrap64 (x5_1 + 1)), (by first | rfl | (simp; done) | (simp [*]; done)), H', ⟨by have := HK1.out; omega⟩, by repeat (first | exact Drawn0.refl _ | apply Drawn0.step)⟩
      ·rw [if_neg c6] at H
       exact absurd H (by simp)
     ·rw [if_neg c5] at H
      exact absurd H (by simp)
    ·rw [if_neg c4] at H
     have c4b0 : decide (x5_1 < (l0.length : Int)) = false := decide_eq_false c4
     clear c4
     obtain rfl := Option.some.inj H
     go_wp2
     repeat (go_quiet (fail); try go_wp2)
     go_ret
     exact ⟨by first | rfl | (simp; done) | (simp [*]; done), by repeat (first | exact Drawn0.refl _ | apply Drawn0.step)⟩
 ·rw [if_neg c3] at H
  have c3b0 : ((l0.length : Int) == (l1.length : Int)) = false := beq_eq_false_iff_ne.mpr c3
  have c3b1 : ((l0.length : Int) != (l1.length : Int)) = true := bne_iff_ne.mpr c3
  have c3b2 : (l0.length == l1.length) = false := by first | simpa using c3 | (simp at c3 ⊢; omega)
  obtain rfl := Option.some.inj H
  go_enter Try.func16, Try.ntmps16
  go_wp2
  repeat (go_quiet (fail); try go_wp2)
  go_ret
  exact ⟨by first | rfl | (simp; done) | (simp [*]; done), by repeat (first | exact Drawn0.refl _ | apply Drawn0.step)⟩


/-! ### pattern_usable: function 60 -/
def pattern_usable.f (a0_0 : Int) (a0_1 : Int) (a0_2 : Int) (a0_3 : Int) (l0_4 : List Int) : Option (Int) := some (wrap64 (a0_0 - (wrap64 (2 * a0_1))))
set_option maxHeartbeats 8000000 in
set_option maxRecDepth 100000 in
theorem pattern_usable.calls (a0_0 : Int) (a0_1 : Int) (a0_2 : Int) (a0_3 : Int) (A0_4 : Option Addr) (c0_4 : Nat) (l0_4 : List Int) (r : Int) (w : World) (hr0_4 : Kd.C (Kd.int .i64) w A0_4 l0_4.length l0_4) (hc0_4 : l0_4.length ≤ c0_4) (h : pattern_usable.f a0_0 a0_1 a0_2 a0_3 l0_4 = some r) :
  Calls Try.prog 60 #[.agg #[.int .i64 a0_0, .int .i64 a0_1, .int .i64 a0_2, .int .i64 a0_3, .slice A0_4 l0_4.length c0_4]] w fun e w' => e = .returned (.int .i64 r) ∧ Below w.heap.size w w' := by
 have hu32 := Try.underlying32
 have HR0_4 := Aside0.mk hr0_4
 have HC0_4 := Aside0.mk hc0_4
 clear hr0_4 hc0_4
 have HB := Aside0.mk (Below.refl w.heap.size w)
 have H : (some (wrap64 (a0_0 - (wrap64 (2 * a0_1))))) = some r := h
 clear h
 obtain rfl := Option.some.inj H
 go_enter Try.func60, Try.ntmps60
 go_wp2_with (first | ((with_reducible refine gate_dst (N := 1) rfl ?_); refine box_event ?hg (N := 1) ?hd (cs := #[.int .i64 a0_0, .int .i64 a0_1, .int .i64 a0_2, .int .i64 a0_3, .slice A0_4 l0_4.length c0_4]) (t := 32) ?hr ?_; (case hd => rfl); (case hg => rfl); (case hr => first | (go_simp; done) | (go_simp; rfl)); intro gb126 hg w2 hbox hb; have n0_ := Aside0.mk (below_step (by repeat (first | (with_reducible first | exact HB.out | apply below_alloc | apply pw_below_drewN | apply below_drew1) | exact HB.out)) hb); have n1_ := Aside0.mk (hbox); have n2_ := Aside0.mk ((by rw [hg]; exact (below_size (by repeat (first | (with_reducible first | exact HB.out | apply below_alloc | apply pw_below_drewN | apply below_drew1) | exact HB.out))) : w.heap.size ≤ gb126)); have n3_ := Aside0.mk ((by rw [hg]; exact (below_size (by repeat (first | (with_reducible first | exact HB.out | apply below_alloc | apply pw_below_drewN | apply below_drew1) | exact HB.out))) : w.heap.size ≤ gb126)); clear HB; have HB := n0_; have BK126 := n1_; have GW126 := n2_; have GE126 := n3_; clear n0_ n1_ n2_ n3_; clear hb hbox hg; have hcz3_0 : w2.cell? ⟨gb126, 0, none⟩ = some (.int .i64 a0_0) := (blk_cell BK126.out 0).trans rfl; have hcz3_1 : w2.cell? ⟨gb126, 1, none⟩ = some (.int .i64 a0_1) := (blk_cell BK126.out 1).trans rfl; have hcz3_2 : w2.cell? ⟨gb126, 2, none⟩ = some (.int .i64 a0_2) := (blk_cell BK126.out 2).trans rfl; have hcz3_3 : w2.cell? ⟨gb126, 3, none⟩ = some (.int .i64 a0_3) := (blk_cell BK126.out 3).trans rfl; have hcz3_4 : w2.cell? ⟨gb126, 4, none⟩ = some (.slice A0_4 l0_4.length c0_4) := (blk_cell BK126.out 4).trans rfl; have hfz3_0 := blk_frozen BK126.out 0; have hfz3_1 := blk_frozen BK126.out 1; have hfz3_2 := blk_frozen BK126.out 2; have hfz3_3 := blk_frozen BK126.out 3; have hfz3_4 := blk_frozen BK126.out 4))
 go_ret
 exact ⟨by first | rfl | (simp [errW_none, errW_some] <;> rfl) | (simp [*, errW_none, errW_some] <;> rfl), by repeat (first | (with_reducible first | exact HB.out | apply below_alloc | apply pw_below_drewN | apply below_drew1 | refine below_set ?_ GE126.out) | exact HB.out)⟩

end Go.Proofs.Ytocnlpnlngnbnaa.P39
