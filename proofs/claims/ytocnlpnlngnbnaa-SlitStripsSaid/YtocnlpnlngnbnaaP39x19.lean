-- Made by wip/tools/gprint.py of this session, a driver over the kit's print program with given functions.
import Derived.Test.YtocnlpnlngnbnaaP39x0
import Derived.Test.YtocnlpnlngnbnaaP39x11
import Derived.Test.YtocnlpnlngnbnaaP39x18
namespace Go.Proofs.Ytocnlpnlngnbnaa.P39
open Go.RowKit Go.Proofs.YtocnlpnlngnbnaaW.PrintWords Go.Proofs.YtocnlpnlngnbnaaW.PrintLast Go.Proofs.YtocnlpnlngnbnaaW.PrintMore
attribute [local go_sem] max2_int min2_int max_two min_two max_three min_three max_four min_four   -- for this text's walks alone
set_option linter.unusedVariables false
set_option linter.unusedSimpArgs false

/-! ### pattern_list: function 57 -/
def pattern_list.run (trim K : Int) (most : Nat) : List Int → List Int → Int → Int → List (List Int) → List (List Int)
 | [], c, kn, left, out => if most ≤ out.length then out else if left ≤ trim ∧ kn < K then out ++ [c] else out
 | s :: ss, c, kn, left, out => if most ≤ out.length then out else if left - kn * s > trim then out else
   (List.range ((min kn (left / s)).toNat + 1)).reverse.foldl (fun o (n : Nat) => pattern_list.run trim K most ss (c ++ [(n : Int)]) (kn - n) (left - n * s) o) out
def pattern_list.Pre (W E T K : Int) (l : List Int) (m : Int) : Prop :=
 1 ≤ W ∧ W ≤ 12000 ∧ 0 ≤ E ∧ 2 * E ≤ W ∧ 0 ≤ T ∧ T ≤ W ∧ 1 ≤ K ∧ K ≤ 12 ∧ l.length ≤ 8 ∧ 0 < l.length ∧ (∀ s ∈ l, 1 ≤ s ∧ s ≤ 12000) ∧ 0 ≤ m ∧ m ≤ 4096
instance (W E T K : Int) (l : List Int) (m : Int) : Decidable (pattern_list.Pre W E T K l m) := by unfold pattern_list.Pre; infer_instance
def pattern_list.f (a0_0 : Int) (a0_1 : Int) (a0_2 : Int) (a0_3 : Int) (l0_4 : List Int) (a1 : Int) : Option (List (List Int)) :=
 if pattern_list.Pre a0_0 a0_1 a0_2 a0_3 l0_4 a1 then some (pattern_list.run a0_2 a0_3 a1.toNat l0_4 [] a0_3 (a0_0 - 2 * a0_1) []) else none
def pattern_list.clone.f (l0 : List Int) : Option (List Int) := if l0.length ≤ 1000000 then some l0 else none
set_option maxHeartbeats 1000000 in
set_option maxRecDepth 100000 in
theorem pattern_list.clone.calls (A0 : Option Addr) (c0 : Nat) (l0 : List Int) (r : List Int) (w : World) (hr0 : Kd.C (Kd.int .i64) w A0 l0.length l0) (hc0 : l0.length ≤ c0) (h : pattern_list.clone.f l0 = some r) :
  Calls Try.prog 67 #[.slice A0 l0.length c0] w fun e w' => ∃ v0_ : Value, e = .returned (v0_) ∧ Kd.R (Kd.int .i64) 3 w' w.heap.size (fun _ => True) v0_ r ∧ Below w.heap.size w w' := by
 unfold pattern_list.clone.f at h
 split at h
 ·rename_i hlen
  obtain rfl := Option.some.inj h
  clear h
  have HR0 := Aside0.mk hr0
  have hu30 := Try.underlying30
  cases A0 with
  | none =>
   obtain rfl : l0 = [] := by
    cases l0 with
    | nil => rfl
    | cons a t => obtain ⟨ad, e, _⟩ := hr0.2.2 (by simp); cases e
   clear hr0
   have heq := Lib.run_eql_slice_nil (P := Try.prog) w 30 3 none 0 c0 0 0 Try.underlying30
   go_enter Try.func67, Try.ntmps67
   go_wp2_with fail
   go_ret
   exact ⟨_, rfl, Kd.R_nil _ _ _ _ _, Below.refl _ _⟩
  | some ad =>
   clear hr0
   have heq := Lib.run_eql_slice_nil (P := Try.prog) w 30 3 (some ad) l0.length c0 0 0 Try.underlying30
   have i3 := info3
   go_enter Try.func67, Try.ntmps67
   go_wp2_with (first | ((with_reducible refine gate_dst (N := 5) rfl ?_); refine Kd.R_lit (Kd.int .i64) _ 3 ?hg (N := 5) ?hd (xs := ([] : List Int)) (inner := []) (ok := fun _ => True) (okp := fun _ => True) ?hr ?hp (fun _ hk => hk) trivial (Below.refl _ _) (Nat.le_refl _) (by simp) ?_; (case hd => rfl); (case hg => rfl); (case hr => first | (go_simp; done) | (go_simp; rfl)); (case hp => exact Reps.none _ _); intro v1 w1 ho1 hb1 hg1 hnew1; have HO1 := Aside0.mk ho1; have HB1 := Aside0.mk hb1; clear ho1 hb1 hg1 hnew1) | ((with_reducible refine gate_builtin (b := .append) (xs := #[.tmp 5, .tmp 6]) rfl ?_); at_builtin; refine Kd.R_append_rows (Kd.int .i64) (w0 := w) w.heap.size rfl (.tmp 5) (.tmp 6) 30 3 (.int .i64 0) 8 rfl Try.underlying30 info3 rfl (by decide) (by omega) _ [] l0 _ _ _ (fun _ => True) (fun _ => False) rfl rfl HO1.out (Kd.C_below HR0.out HB1.out) (fun _ _ h => h) (fun _ h => h.elim) (fun _ _ => trivial) HB1.out HB1.out.size (by simp; omega) ?_; intro v2 w2 ho2 hb2 hg2 hat2; have HO2 := Aside0.mk ho2; have HB2 := Aside0.mk hb2; clear ho2 hb2 hg2 hat2))
   go_ret
   exact ⟨_, rfl, HO2.out, HB2.out⟩
 ·cases h

theorem pattern_list.clone.at_ (A0 : Option Addr) (n c0 : Nat) (l0 : List Int) (w : World) (hn : l0.length = n) (hr0 : Kd.C (Kd.int .i64) w A0 n l0) (hc0 : n ≤ c0) (hl : n ≤ 1000000) :
  Calls Try.prog 67 #[.slice A0 n c0] w fun e w' => ∃ v0_ : Value, e = .returned (v0_) ∧ Kd.R (Kd.int .i64) 3 w' w.heap.size (fun _ => True) v0_ l0 ∧ Below w.heap.size w w' := by
 subst hn
 exact pattern_list.clone.calls A0 c0 l0 l0 w hr0 hc0 (by unfold pattern_list.clone.f; rw [if_pos hl])

/-- What stays throughout: the blocks of the variables that the closure captures, and what they hold. -/
structure pattern_list.Cx where
 w0 : World
 bd : Nat
 bm : Nat
 bo : Nat
 bx : Nat
 bc : Nat
 bf : Nat
 B : Nat
 W : Int
 E : Int
 T : Int
 K : Int
 m : Int
 A : Option Addr
 c : Nat
 l : List Int

structure pattern_list.Inv (q : pattern_list.Cx) (w : World) (v : Value) (out : List (List Int)) (cs : List Int) : Prop where
 below : Below q.w0.heap.size q.w0 w
 hd : w.heap[q.bd]? = some (.cells #[.int .i64 q.W, .int .i64 q.E, .int .i64 q.T, .int .i64 q.K, .slice q.A q.l.length q.c] 32 (0, 0))
 hm : w.heap[q.bm]? = some (.cells #[.int .i64 q.m] 3 (0, 0))
 ho : w.heap[q.bo]? = some (.cells #[v] 89 (0, 0))
 hx : w.heap[q.bx]? = some (.cells (nums .i64 cs).toArray 3 (0, 0))
 hc : w.heap[q.bc]? = some (.cells #[.slice (some ⟨q.bx, 0, none⟩) q.l.length q.l.length] 30 (0, 0))
 hf : w.heap[q.bf]? = some (.cells #[.func (.func 66) #[] #[.pointer (some ⟨q.bo, 0, none⟩), .pointer (some ⟨q.bm, 0, none⟩), .pointer (some ⟨q.bc, 0, none⟩), .pointer (some ⟨q.bd, 0, none⟩), .pointer (some ⟨q.bf, 0, none⟩)]] 98 (0, 0))
 own : Kd.S (Kd.slice 3 (Kd.int .i64)) 30 w q.B (fun _ => True) v out
 len : cs.length = q.l.length
 size : q.B ≤ w.heap.size

structure pattern_list.Ok (q : pattern_list.Cx) : Prop where
 pre : pattern_list.Pre q.W q.E q.T q.K q.l q.m
 reads : Kd.C (Kd.int .i64) q.w0 q.A q.l.length q.l
 od : q.w0.heap.size ≤ q.bd
 dm : q.bd < q.bm
 mo : q.bm < q.bo
 ox : q.bo < q.bx
 xc : q.bx < q.bc
 cf : q.bc < q.bf
 fB : q.bf < q.B

def pattern_list.After (q : pattern_list.Cx) (w : World) (k : Nat) (out : List (List Int)) (cs : List Int) (e : Ending) (w' : World) : Prop :=
 e = .returned (.tuple #[]) ∧ ∃ v' cs', pattern_list.Inv q w' v' out cs' ∧ cs'.take k = cs.take k

set_option maxHeartbeats 1000000 in
set_option maxRecDepth 100000 in
theorem pattern_list.full (q : pattern_list.Cx) (ok : pattern_list.Ok q) (size kn left : Int) (v : Value) (out : List (List Int)) (cs : List Int) (k : Nat) (w : World) (I : pattern_list.Inv q w v out cs) (hm : q.m ≤ (out.length : Int)) :
  Calls Try.prog 66 #[.int .i64 size, .int .i64 kn, .int .i64 left, .pointer (some ⟨q.bo, 0, none⟩), .pointer (some ⟨q.bm, 0, none⟩), .pointer (some ⟨q.bc, 0, none⟩), .pointer (some ⟨q.bd, 0, none⟩), .pointer (some ⟨q.bf, 0, none⟩)] w (pattern_list.After q w k out cs) := by
 have HI := Aside0.mk I
 obtain ⟨Ao, co, rfl⟩ := Kd.S_slice I.own
 have c1 : w.cell? ⟨q.bo, 0, none⟩ = some (.slice Ao out.length co) := (blk_cell I.ho 0).trans rfl
 have c2 : w.cell? ⟨q.bm, 0, none⟩ = some (.int .i64 q.m) := (blk_cell I.hm 0).trans rfl
 clear I
 go_enter Try.func66, Try.ntmps66
 go_wp2_with fail
 go_end0
 exact ⟨rfl, _, _, HI.out, rfl⟩


set_option maxHeartbeats 1000000 in
set_option maxRecDepth 100000 in
theorem pattern_list.leafno (q : pattern_list.Cx) (ok : pattern_list.Ok q) (kn left : Int) (v : Value) (out : List (List Int)) (cs : List Int) (k : Nat) (w : World) (I : pattern_list.Inv q w v out cs) (hm : (out.length : Int) < q.m) (hno : ¬ (left ≤ q.T ∧ kn < q.K)) :
  Calls Try.prog 66 #[.int .i64 q.l.length, .int .i64 kn, .int .i64 left, .pointer (some ⟨q.bo, 0, none⟩), .pointer (some ⟨q.bm, 0, none⟩), .pointer (some ⟨q.bc, 0, none⟩), .pointer (some ⟨q.bd, 0, none⟩), .pointer (some ⟨q.bf, 0, none⟩)] w (pattern_list.After q w k out cs) := by
 have HI := Aside0.mk I
 obtain ⟨Ao, co, rfl⟩ := Kd.S_slice I.own
 have c1 : w.cell? ⟨q.bo, 0, none⟩ = some (.slice Ao out.length co) := (blk_cell I.ho 0).trans rfl
 have c2 : w.cell? ⟨q.bm, 0, none⟩ = some (.int .i64 q.m) := (blk_cell I.hm 0).trans rfl
 have c3 : w.cell? ⟨q.bc, 0, none⟩ = some (.slice (some ⟨q.bx, 0, none⟩) q.l.length q.l.length) := (blk_cell I.hc 0).trans rfl
 have c4 : w.cell? ⟨q.bd, 2, none⟩ = some (.int .i64 q.T) := (blk_cell I.hd 2).trans rfl
 have c5 : w.cell? ⟨q.bd, 3, none⟩ = some (.int .i64 q.K) := (blk_cell I.hd 3).trans rfl
 clear I
 have hu32 := Try.underlying32
 by_cases h1 : left ≤ q.T
 ·have h2 : q.K ≤ kn := by omega
  clear hno
  go_enter Try.func66, Try.ntmps66
  go_wp2_with fail
  go_end0
  exact ⟨rfl, _, _, HI.out, rfl⟩
 ·have h1' : q.T < left := by omega
  clear hno h1
  go_enter Try.func66, Try.ntmps66
  go_wp2_with fail
  go_end0
  exact ⟨rfl, _, _, HI.out, rfl⟩

theorem pattern_list.Inv.cread {q : pattern_list.Cx} {w : World} {v : Value} {out : List (List Int)} {cs : List Int} (I : pattern_list.Inv q w v out cs) (h : q.l.length ≤ 8) : Kd.C (Kd.int .i64) w (some ⟨q.bx, 0, none⟩) q.l.length cs := by
 refine ⟨I.len, by omega, fun hn => ⟨_, rfl, fun j p hj => ⟨[.int .i64 p], rfl, rfl, fun i u hu => ?_⟩⟩⟩
 have hi : i = 0 := by
  have := (List.getElem?_eq_some_iff.1 hu).1
  simpa using this
 subst hi
 simp at hu
 subst hu
 rw [show j * (Kd.int .i64).sz + 0 = j from by simp [Kd.int, Kd.scalar], add_plain, blk_cell I.hx]
 simp [nums, hj]

theorem pattern_list.own_from {q : pattern_list.Cx} {w : World} {v : Value} {out : List (List Int)} (h : Kd.S (Kd.slice 3 (Kd.int .i64)) 30 w q.B (fun _ => True) v out) : Kd.S (Kd.slice 3 (Kd.int .i64)) 30 w q.B (fun k => q.B ≤ k) v out := Kd.S_mono (Kd.S_bound h) (fun _ hk => hk.2.1)
/-- Behind an append: what is appended is stored into the variable. -/
theorem pattern_list.Inv.stored {q : pattern_list.Cx} (ok : pattern_list.Ok q) {w w2 : World} {v v2 : Value} {out out2 : List (List Int)} {cs : List Int} (I : pattern_list.Inv q w v out cs) (hB : Below q.B w w2)
  (own : Kd.S (Kd.slice 3 (Kd.int .i64)) 30 w2 q.B (fun _ => True) v2 out2) : pattern_list.Inv q (w2.setCell ⟨q.bo, 0, none⟩ v2) v2 out2 cs := by
 have h1 := ok.od
 have h2 := ok.dm
 have h3 := ok.mo
 have h4 := ok.ox
 have h5 := ok.xc
 have h6 := ok.cf
 have h7 := ok.fB
 have far : ∀ (g t : Nat) (c : Array Value), g ≠ q.bo → g < q.B → w.heap[g]? = some (.cells c t (0, 0)) → (w2.setCell ⟨q.bo, 0, none⟩ v2).heap[g]? = some (.cells c t (0, 0)) := fun g t c hg hlt h => blk_far ((hB.block g hlt).trans h) (p := ⟨q.bo, 0, none⟩) hg v2
 exact {
  below := (I.below.trans (hB.mono (by omega))).setCell (by simp; omega) _
  hd := far _ _ _ (by omega) (by omega) I.hd
  hm := far _ _ _ (by omega) (by omega) I.hm
  ho := by simpa using blk_set ((hB.block q.bo (by omega)).trans I.ho) 0 v2
  hx := far _ _ _ (by omega) (by omega) I.hx
  hc := far _ _ _ (by omega) (by omega) I.hc
  hf := far _ _ _ (by omega) (by omega) I.hf
  own := Kd.S_mono (Kd.S_far (p := ⟨q.bo, 0, none⟩) (pattern_list.own_from own) (fun k hk => by simp; omega) v2) (fun _ _ => trivial)
  len := I.len
  size := by have := hB.size; have := I.size; simp [World.setCell]; omega }

theorem pattern_list.ready {q : pattern_list.Cx} {w w1 : World} {v u : Value} {out : List (List Int)} {cs : List Int} (I : pattern_list.Inv q w v out cs) (hb : Below w.drew.heap.size w.drew w1) (hR : Kd.R (Kd.int .i64) 3 w1 w.drew.heap.size (fun _ => True) u cs) :
  Kd.R (Kd.int .i64) 3 w1 q.B (fun k => w.heap.size ≤ k) u cs ∧ (∀ k, w.heap.size ≤ k → True ∧ some k ≠ v.ownBlock) ∧ Kd.S (Kd.slice 3 (Kd.int .i64)) 30 w1 q.B (fun k => True ∧ ¬ w.heap.size ≤ k) v out ∧ Below q.B w w1 ∧ q.B ≤ w1.heap.size := by
 have hb' : Below w.heap.size w w1 := (below_drew (Below.refl _ _)).trans hb
 have := I.size
 have := hb'.size
 exact ⟨Kd.R_lower (Kd.R_mono (Kd.R_bound hR) (fun k hk => (hk.2.1 : w.heap.size ≤ k))) I.size, fun k hk => ⟨trivial, fun e => by have := Kd.S_lt I.own k e.symm; omega⟩, Kd.S_mono (Kd.S_old I.own hb') (fun k hk => ⟨trivial, by have := hk.2; omega⟩), hb'.mono I.size, by omega⟩

set_option maxHeartbeats 4000000 in
set_option maxRecDepth 100000 in
theorem pattern_list.leafyes (q : pattern_list.Cx) (ok : pattern_list.Ok q) (kn left : Int) (v : Value) (out : List (List Int)) (cs : List Int) (w : World) (I : pattern_list.Inv q w v out cs) (hm : (out.length : Int) < q.m) (h1 : left ≤ q.T) (h2 : kn < q.K) :
  Calls Try.prog 66 #[.int .i64 q.l.length, .int .i64 kn, .int .i64 left, .pointer (some ⟨q.bo, 0, none⟩), .pointer (some ⟨q.bm, 0, none⟩), .pointer (some ⟨q.bc, 0, none⟩), .pointer (some ⟨q.bd, 0, none⟩), .pointer (some ⟨q.bf, 0, none⟩)] w fun e w' => e = .returned (.tuple #[]) ∧ ∃ v', pattern_list.Inv q w' v' (out ++ [cs]) cs := by
 have HI := Aside0.mk I
 have hlen : q.l.length ≤ 8 := ok.pre.2.2.2.2.2.2.2.2.1
 have HC := Aside0.mk (I.cread hlen)
 obtain ⟨Ao, co, rfl⟩ := Kd.S_slice I.own
 have c1 : w.cell? ⟨q.bo, 0, none⟩ = some (.slice Ao out.length co) := (blk_cell I.ho 0).trans rfl
 have c2 : w.cell? ⟨q.bm, 0, none⟩ = some (.int .i64 q.m) := (blk_cell I.hm 0).trans rfl
 have c3 : w.cell? ⟨q.bc, 0, none⟩ = some (.slice (some ⟨q.bx, 0, none⟩) q.l.length q.l.length) := (blk_cell I.hc 0).trans rfl
 have c4 : w.cell? ⟨q.bd, 2, none⟩ = some (.int .i64 q.T) := (blk_cell I.hd 2).trans rfl
 have c5 : w.cell? ⟨q.bd, 3, none⟩ = some (.int .i64 q.K) := (blk_cell I.hd 3).trans rfl
 have HF := Aside0.mk (blk_frozen I.ho 0)
 have HL := Aside0.mk (show (out.length + 1) * 24 ≤ 140737488355328 by have := ok.pre.2.2.2.2.2.2.2.2.2.2.2.2; omega)
 have HbB := Aside0.mk (show q.bo < q.B by have := ok.ox; have := ok.xc; have := ok.cf; have := ok.fB; omega)
 clear I
 have hu32 := Try.underlying32
 have hu89 := Try.underlying89
 go_enter Try.func66, Try.ntmps66
 go_wp2_with fail
 go_region_law (first
  | (refine Kd.S_append_step (Kd.slice 3 (Kd.int .i64)) (w0 := w) q.B (by rfl) (.tmp 31) (.tmp 34) 89 30 (.slice none 0 0) 24 rfl Try.underlying89 info30 rfl (by decide) (by omega) _ out cs [_] (fun _ => True) (fun k => w.heap.size ≤ k) rfl rfl ⟨_, rfl, HR.out⟩ HK.out (fun _ _ => trivial) HO.out HBB.out HZ.out HL.out ?_; intro v2 w2 ho2 hb2 hg2 hat2; have HO2 := Aside0.mk ho2; have HB2 := Aside0.mk hb2; have c1'' : w2.cell? ⟨q.bo, 0, none⟩ = some (.slice Ao out.length co) := (hb2.cell (p := ⟨q.bo, 0, none⟩) HbB.out).trans c1; have f1'' : w2.frozen? ⟨q.bo, 0, none⟩ = false := (hb2.frozen (p := ⟨q.bo, 0, none⟩) HbB.out).trans HF.out; obtain ⟨A2, k2, rfl⟩ := Kd.S_slice ho2; clear ho2 hb2 hg2 hat2)
  | (go_simp; go_wp2_with (go_at_call 67; refine (pattern_list.clone.at_ _ _ _ cs _ HI.out.len (Kd.C_drew HC.out) (Nat.le_refl _) (by omega)).mono ?_; rintro e w1 ⟨v0, rfl, hR, hb⟩; obtain ⟨A1, k1, rfl⟩ := Kd.R_slice hR; have HQ := pattern_list.ready HI.out hb hR; have HR := Aside0.mk HQ.1; have HK := Aside0.mk HQ.2.1; have HO := Aside0.mk HQ.2.2.1; have HBB := Aside0.mk HQ.2.2.2.1; have HZ := Aside0.mk HQ.2.2.2.2; clear HQ; have c1' : w1.cell? ⟨q.bo, 0, none⟩ = some (.slice Ao out.length co) := pw_cell_below hb c1; have c1a : ∀ o, (w1.alloc o).cell? ⟨q.bo, 0, none⟩ = some (.slice Ao out.length co) := (fun o => pw_cell_below (below_alloc (Below.refl _ _) o) c1'); clear hR hb)))

 all_goals (go_wp2; first | go_end0 | refine bodyPost_ret (results_none rfl _ _ _) rfl ?_)
 all_goals (have HO3 := HO2.out; rw [List.length_append, List.length_singleton] at HO3; exact ⟨rfl, _, HI.out.stored ok HB2.out HO3⟩)

def pattern_list.Done (q : pattern_list.Cx) (pre : List Int) (out : List (List Int)) (e : Ending) (w' : World) : Prop :=
 e = .returned (.tuple #[]) ∧ ∃ v' cs', pattern_list.Inv q w' v' out cs' ∧ cs'.take pre.length = pre
def pattern_list.Rel (q : pattern_list.Cx) (pre : List Int) (M : Nat) (step : List (List Int) → Nat → List (List Int)) (final : List (List Int)) (j : Nat) (n : Value) (wr : World) : Prop :=
 ∃ v out cs, n = .int .i64 ((j : Int) - 1) ∧ j ≤ M ∧ pattern_list.Inv q wr v out cs ∧ cs.take pre.length = pre ∧ (List.range j).reverse.foldl step out = final
/-- A store into the list of counts. -/
theorem pattern_list.Inv.put {q : pattern_list.Cx} (ok : pattern_list.Ok q) {w : World} {v : Value} {out : List (List Int)} {cs : List Int} (I : pattern_list.Inv q w v out cs) (i : Nat) (x : Int) : pattern_list.Inv q (w.setCell ⟨q.bx, i, none⟩ (.int .i64 x)) v out (cs.set i x) := by
 have h1 := ok.od
 have h2 := ok.dm
 have h3 := ok.mo
 have h4 := ok.ox
 have h5 := ok.xc
 have h6 := ok.cf
 have h7 := ok.fB
 have far : ∀ (g t : Nat) (c : Array Value), g ≠ q.bx → w.heap[g]? = some (.cells c t (0, 0)) → (w.setCell ⟨q.bx, i, none⟩ (.int .i64 x)).heap[g]? = some (.cells c t (0, 0)) := fun g t c hg h => blk_far h (p := ⟨q.bx, i, none⟩) hg _
 exact {
  below := I.below.setCell (by simp; omega) _
  hd := far _ _ _ (by omega) I.hd
  hm := far _ _ _ (by omega) I.hm
  ho := far _ _ _ (by omega) I.ho
  hx := by
   rw [blk_set I.hx i (.int .i64 x)]
   congr 2
   simp [nums, List.map_set]
  hc := far _ _ _ (by omega) I.hc
  hf := far _ _ _ (by omega) I.hf
  own := Kd.S_mono (Kd.S_far (p := ⟨q.bx, i, none⟩) (pattern_list.own_from I.own) (fun k hk => by simp; omega) _) (fun _ _ => trivial)
  len := by rw [List.length_set]; exact I.len
  size := by have := I.size; simpa [World.setCell] using this }

set_option maxHeartbeats 4000000 in
set_option maxRecDepth 100000 in
theorem pattern_list.node (q : pattern_list.Cx) (ok : pattern_list.Ok q) (s : Int) (ss pre : List Int) (hl : q.l.drop pre.length = s :: ss) (kn left : Int) (hk0 : 0 ≤ kn) (hk1 : kn ≤ 12) (hl0 : 0 ≤ left) (hl1 : left ≤ 12000)
  (ih : ∀ (n : Int) (v : Value) (out : List (List Int)) (cs : List Int) (w : World), 0 ≤ n → n ≤ kn → 0 ≤ left - n * s → pattern_list.Inv q w v out cs → cs.take (pre.length + 1) = pre ++ [n] →
   Calls Try.prog 66 #[.int .i64 ((pre.length : Int) + 1), .int .i64 (kn - n), .int .i64 (left - n * s), .pointer (some ⟨q.bo, 0, none⟩), .pointer (some ⟨q.bm, 0, none⟩), .pointer (some ⟨q.bc, 0, none⟩), .pointer (some ⟨q.bd, 0, none⟩), .pointer (some ⟨q.bf, 0, none⟩)] w (pattern_list.Done q (pre ++ [n]) (pattern_list.run q.T q.K q.m.toNat ss (pre ++ [n]) (kn - n) (left - n * s) out)))
  (v : Value) (out : List (List Int)) (cs : List Int) (w : World) (I : pattern_list.Inv q w v out cs) (hcs : cs.take pre.length = pre) (hm : (out.length : Int) < q.m) :
  Calls Try.prog 66 #[.int .i64 pre.length, .int .i64 kn, .int .i64 left, .pointer (some ⟨q.bo, 0, none⟩), .pointer (some ⟨q.bm, 0, none⟩), .pointer (some ⟨q.bc, 0, none⟩), .pointer (some ⟨q.bd, 0, none⟩), .pointer (some ⟨q.bf, 0, none⟩)] w (pattern_list.Done q pre (pattern_list.run q.T q.K q.m.toNat (s :: ss) pre kn left out)) := by
 have hlen : pre.length < q.l.length := by
  rcases Nat.lt_or_ge pre.length q.l.length with h | h
  ·exact h
  ·rw [List.drop_eq_nil_of_le h] at hl; cases hl
 have hlen8 : q.l.length ≤ 8 := ok.pre.2.2.2.2.2.2.2.2.1
 have hs : q.l[pre.length]? = some s := by have := congrArg List.head? hl; rwa [List.head?_drop] at this
 have hsm : s ∈ q.l := List.mem_of_getElem? hs
 have hsb := ok.pre.2.2.2.2.2.2.2.2.2.2.1 s hsm
 have hs0 := hsb.1
 have hs1 := hsb.2
 obtain ⟨ad, ead, hcell⟩ := Kd.at_int (Kd.C_below ok.reads I.below) (pre.length : Int) (by omega) (by omega)
 have hrd : rd q.l (pre.length : Int) = s := by unfold rd; rw [Int.toNat_natCast, List.getD_eq_getElem?_getD, hs]; rfl
 rw [hrd, Int.toNat_natCast] at hcell
 have hp0 : 0 ≤ kn * s := Int.mul_nonneg hk0 (by omega)
 have hp1 : kn * s ≤ 144000 := Int.le_trans (Int.mul_le_mul hk1 hs1 (by omega) (by omega)) (by omega)
 have HI := Aside0.mk I
 have HM := Aside0.mk hm
 have HCS := Aside0.mk hcs
 obtain ⟨Ao, co, rfl⟩ := Kd.S_slice I.own
 have c1 : w.cell? ⟨q.bo, 0, none⟩ = some (.slice Ao out.length co) := (blk_cell I.ho 0).trans rfl
 have c2 : w.cell? ⟨q.bm, 0, none⟩ = some (.int .i64 q.m) := (blk_cell I.hm 0).trans rfl
 have c3 : w.cell? ⟨q.bc, 0, none⟩ = some (.slice (some ⟨q.bx, 0, none⟩) q.l.length q.l.length) := (blk_cell I.hc 0).trans rfl
 have c4 : w.cell? ⟨q.bd, 2, none⟩ = some (.int .i64 q.T) := (blk_cell I.hd 2).trans rfl
 have c6 : w.cell? ⟨q.bd, 4, none⟩ = some (.slice (some ad) q.l.length q.c) := by rw [← ead]; exact (blk_cell I.hd 4).trans rfl
 have hne : ((pre.length : Int) == (q.l.length : Int)) = false := by rw [beq_eq_false_iff_ne]; omega
 have hu32 := Try.underlying32
 clear I hl hs hsm hsb hrd ead hcs
 have HIH := Aside0.mk ih
 clear ih
 by_cases hT : q.T < left - kn * s
 ·have HR : pattern_list.run q.T q.K q.m.toNat (s :: ss) pre kn left out = out := by
   rw [pattern_list.run, if_neg (by omega), if_pos (by omega)]
  rw [HR]
  clear HR
  go_enter Try.func66, Try.ntmps66
  go_wp2_with fail
  first | go_end0 | refine bodyPost_ret (results_none rfl _ _ _) rfl ?_
  exact ⟨rfl, _, _, HI.out, HCS.out⟩
 ·have hT' : left - kn * s ≤ q.T := by omega
  clear hT
  have hd0 : 0 ≤ left / s := Int.ediv_nonneg hl0 (by omega)
  have hd1 : left / s * s ≤ left := Int.ediv_mul_le _ (by omega)
  have HR := Aside0.mk (show pattern_list.run q.T q.K q.m.toNat (s :: ss) pre kn left out = (List.range ((min kn (left / s)).toNat + 1)).reverse.foldl (fun o (n : Nat) => pattern_list.run q.T q.K q.m.toNat ss (pre ++ [(n : Int)]) (kn - n) (left - n * s) o) out by
   rw [pattern_list.run, if_neg (by omega), if_neg (by omega)])
  obtain ⟨M, hM⟩ : ∃ M : Nat, M = (min kn (left / s)).toNat := ⟨_, rfl⟩
  have HMe := Aside0.mk hM
  have hMk : (M : Int) ≤ kn := by rw [hM]; omega
  have hMs : (M : Int) * s ≤ left := Int.le_trans (Int.mul_le_mul_of_nonneg_right (show (M : Int) ≤ left / s by rw [hM]; omega) (by omega)) hd1
  have hqq := Aside0.mk (show ∀ j : Nat, j ≤ M → 0 ≤ (j : Int) * s ∧ (j : Int) * s ≤ left from fun j hj => ⟨Int.mul_nonneg (by omega) (by omega), Int.le_trans (Int.mul_le_mul_of_nonneg_right (by omega) (by omega)) hMs⟩)
  by_cases hmin : left / s < kn
  all_goals
   have HX := Aside0.mk hM
   clear hM hMs
   go_enter Try.func66, Try.ntmps66
   go_wp2_with fail
   go_loopg [12] (M + 1) (fun j n wr => pattern_list.Rel q pre (M + 1) (fun o (n : Nat) => pattern_list.run q.T q.K q.m.toNat ss (pre ++ [(n : Int)]) (kn - n) (left - n * s) o) (pattern_list.run q.T q.K q.m.toNat (s :: ss) pre kn left out) j n wr)
   case atStart =>
    refine ⟨_, out, cs, ?_, Nat.le_refl _, HI.out, HCS.out, by rw [HR.out, HMe.out]⟩
    have := HX.out
    congr 1
    omega
   case round =>
    obtain ⟨v2, out2, cs2, hn, hj, I2, hcs2, hf⟩ := hrel
    clear hcell c1 c2 c3 c4 c6
    have HI2 := Aside0.mk I2
    have HC2 := Aside0.mk hcs2
    have hl2 : pre.length < cs2.length := by rw [I2.len]; exact hlen
    have d3 : wr.cell? ⟨q.bc, 0, none⟩ = some (.slice (some ⟨q.bx, 0, none⟩) q.l.length q.l.length) := (blk_cell I2.hc 0).trans rfl
    have d8 : wr.cell? ⟨q.bx, pre.length, none⟩ = some (.int .i64 (cs2.getD pre.length 0)) := by
     rw [blk_cell I2.hx]
     simp [nums, hl2]
    have d9 : wr.frozen? ⟨q.bx, pre.length, none⟩ = false := blk_frozen I2.hx _
    have f1 : (wr.setCell ⟨q.bx, pre.length, none⟩ (.int .i64 0)).frozen? ⟨q.bx, pre.length, none⟩ = false := by rw [World.frozen?_setCell]; exact d9
    rcases Nat.eq_zero_or_pos gk with h0 | h0
    ·subst h0
     have HF := Aside0.mk hf
     clear hf I2 hcs2 hj f1
     replace hn := hn.trans (show Value.int .i64 (((0 : Nat) : Int) - 1) = .int .i64 (-1) from by congr 1)
     subst hn
     go_wp2_with fail
     first | go_end0 | refine bodyPost_ret (results_none rfl _ _ _) rfl ?_
     refine ⟨rfl, _, _, (?_ : pattern_list.Inv q _ v2 _ (cs2.set pre.length 0)), ?_⟩
     ·rw [← HF.out]
      exact HI2.out.put ok pre.length 0
     ·rw [List.take_set_of_le (Nat.le_refl _)]
      exact HC2.out
    ·obtain ⟨j, rfl⟩ : ∃ j, gk = j + 1 := ⟨gk - 1, by omega⟩
     replace hn := hn.trans (show Value.int .i64 (((j + 1 : Nat) : Int) - 1) = .int .i64 (j : Int) from by congr 1; omega)
     subst hn
     have hjj := hqq.out j (by omega)
     have hq0 := hjj.1
     have hq1 := hjj.2
     have hjM : j ≤ M := by omega
     have HF := Aside0.mk hf
     have I3 := HI2.out.put ok pre.length (j : Int)
     have HI3 := Aside0.mk I3
     have d10 : (wr.setCell ⟨q.bx, pre.length, none⟩ (.int .i64 (j : Int))).cell? ⟨q.bf, 0, none⟩ = some (.func (.func 66) #[] #[.pointer (some ⟨q.bo, 0, none⟩), .pointer (some ⟨q.bm, 0, none⟩), .pointer (some ⟨q.bc, 0, none⟩), .pointer (some ⟨q.bd, 0, none⟩), .pointer (some ⟨q.bf, 0, none⟩)]) := (blk_cell I3.hf 0).trans rfl
     have HT := Aside0.mk (show (cs2.set pre.length (j : Int)).take (pre.length + 1) = pre ++ [(j : Int)] by
      rw [List.take_succ_eq_append_getElem (by rw [List.length_set]; exact hl2), List.take_set_of_le (Nat.le_refl _), hcs2, List.getElem_set_self])
     clear hf I2 hcs2 hj hjj I3 f1
     go_wp2_with (go_at_call 66; refine (HIH.out (j : Int) v2 out2 (cs2.set pre.length (j : Int)) _ (by omega) (by omega) (by omega) HI3.out HT.out).mono ?_; rintro e w3 ⟨rfl, v3, cs3, I4, hcs4⟩; have HI4 := Aside0.mk I4; have HC4 := Aside0.mk hcs4; clear I4 hcs4)
     go_roundg j
     case measure => omega
     case rel =>
      refine ⟨v3, _, cs3, rfl, by omega, HI4.out, ?_, ?_⟩
      ·have h1 := congrArg (List.take pre.length) HC4.out
       rw [List.take_take, List.length_append, List.length_singleton, Nat.min_eq_left (by omega), List.take_left] at h1
       exact h1
      ·rw [← HF.out, List.range_succ, List.reverse_append]
       rfl

theorem pattern_list.complete (q : pattern_list.Cx) (ok : pattern_list.Ok q) : ∀ (ss pre : List Int) (kn left : Int) (v : Value) (out : List (List Int)) (cs : List Int) (w : World),
  q.l.drop pre.length = ss → pre.length ≤ q.l.length → 0 ≤ kn → kn ≤ 12 → 0 ≤ left → left ≤ 12000 → pattern_list.Inv q w v out cs → cs.take pre.length = pre →
  Calls Try.prog 66 #[.int .i64 pre.length, .int .i64 kn, .int .i64 left, .pointer (some ⟨q.bo, 0, none⟩), .pointer (some ⟨q.bm, 0, none⟩), .pointer (some ⟨q.bc, 0, none⟩), .pointer (some ⟨q.bd, 0, none⟩), .pointer (some ⟨q.bf, 0, none⟩)] w (pattern_list.Done q pre (pattern_list.run q.T q.K q.m.toNat ss pre kn left out)) := by
 intro ss
 have hm0 := ok.pre.2.2.2.2.2.2.2.2.2.2.2.1
 induction ss with
 | nil =>
  intro pre kn left v out cs w hd hp hk0 hk1 hl0 hl1 I hcs
  have hpl : pre.length = q.l.length := by
   have := congrArg List.length hd
   rw [List.length_drop, List.length_nil] at this
   omega
  by_cases hm : q.m ≤ (out.length : Int)
  ·rw [show pattern_list.run q.T q.K q.m.toNat [] pre kn left out = out by rw [pattern_list.run, if_pos (by omega)]]
   exact (pattern_list.full q ok _ kn left v out cs pre.length w I hm).mono fun e w' ⟨he, v', cs', I', hc'⟩ => ⟨he, v', cs', I', hc'.trans hcs⟩
  ·by_cases hy : left ≤ q.T ∧ kn < q.K
   ·rw [show pattern_list.run q.T q.K q.m.toNat [] pre kn left out = out ++ [pre] by rw [pattern_list.run, if_neg (by omega), if_pos hy], hpl]
    have hcp : cs = pre := by rw [← hcs, List.take_of_length_le (by rw [I.len]; omega)]
    subst hcp
    exact (pattern_list.leafyes q ok kn left v out cs w I (by omega) hy.1 hy.2).mono fun e w' ⟨he, v', I'⟩ => ⟨he, v', cs, I', hcs⟩
   ·rw [show pattern_list.run q.T q.K q.m.toNat [] pre kn left out = out by rw [pattern_list.run, if_neg (by omega), if_neg hy], hpl]
    exact (pattern_list.leafno q ok kn left v out cs pre.length w I (by omega) hy).mono fun e w' ⟨he, v', cs', I', hc'⟩ => ⟨he, v', cs', I', hc'.trans hcs⟩
 | cons s ss ih =>
  intro pre kn left v out cs w hd hp hk0 hk1 hl0 hl1 I hcs
  by_cases hm : q.m ≤ (out.length : Int)
  ·rw [show pattern_list.run q.T q.K q.m.toNat (s :: ss) pre kn left out = out by rw [pattern_list.run, if_pos (by omega)]]
   exact (pattern_list.full q ok _ kn left v out cs pre.length w I hm).mono fun e w' ⟨he, v', cs', I', hc'⟩ => ⟨he, v', cs', I', hc'.trans hcs⟩
  ·have hlt : pre.length < q.l.length := by
    have := congrArg List.length hd
    rw [List.length_drop, List.length_cons] at this
    omega
   have hsm : s ∈ q.l := by
    have h1 : q.l[pre.length]? = some s := by have := congrArg List.head? hd; rwa [List.head?_drop] at this
    exact List.mem_of_getElem? h1
   have hsb := ok.pre.2.2.2.2.2.2.2.2.2.2.1 s hsm
   refine pattern_list.node q ok s ss pre hd kn left hk0 hk1 hl0 hl1 ?_ v out cs w I hcs (by omega)
   intro n v2 out2 cs2 w2 hn0 hn1 hns I2 hc2
   have h0 : 0 ≤ n * s := Int.mul_nonneg hn0 (by omega)
   have := ih (pre ++ [n]) (kn - n) (left - n * s) v2 out2 cs2 w2 (by rw [List.length_append, List.length_singleton, ← List.drop_drop, hd]; rfl) (by rw [List.length_append, List.length_singleton]; omega) (by omega) (by omega) hns (by omega) I2 (by rw [List.length_append, List.length_singleton]; exact hc2)
   rwa [List.length_append, List.length_singleton, show (((pre.length + 1 : Nat)) : Int) = (pre.length : Int) + 1 by omega] at this

theorem pattern_list.madeZeros (n : Nat) : madeCells (Value.int .i64 0).cells (n * 1) = (nums .i64 (List.replicate n 0)).toArray := by
 unfold madeCells
 rw [Nat.mul_one]
 apply Array.ext
 ·simp [nums]
 ·intro i h1 h2
  simp [nums, Value.cells]
  have : i % 1 = 0 := by omega
  simp [this]

/-- The world at the closure's first call. -/
def pattern_list.start (w : World) (a0_0 a0_1 a0_2 a0_3 : Int) (A : Option Addr) (c : Nat) (l : List Int) (a1 : Int) : World :=
 (((((w.alloc (Obj.cells #[Value.int IntKind.i64 a0_0, Value.int IntKind.i64 a0_1, Value.int IntKind.i64 a0_2, Value.int IntKind.i64 a0_3, Value.slice A l.length c] 32)).alloc (Obj.cells #[Value.int IntKind.i64 a1] 3)).alloc (Obj.cells #[Value.slice none 0 0] 89)).alloc (Obj.cells (nums IntKind.i64 (List.replicate l.length 0)).toArray 3)).alloc (Obj.cells #[Value.slice (some { block := w.heap.size + 1 + 1 + 1, off := 0 }) l.length l.length] 30)).alloc
 (Obj.cells #[Value.func (Fn.func 66) #[] #[Value.pointer (some { block := w.heap.size + 1 + 1, off := 0 }), Value.pointer (some { block := w.heap.size + 1, off := 0 }), Value.pointer (some { block := w.heap.size + 1 + 1 + 1 + 1, off := 0 }), Value.pointer (some { block := w.heap.size, off := 0 }), Value.pointer (some { block := w.heap.size + 1 + 1 + 1 + 1 + 1, off := 0 })]] 98)
def pattern_list.cx (w : World) (a0_0 a0_1 a0_2 a0_3 : Int) (A : Option Addr) (c : Nat) (l : List Int) (a1 : Int) : pattern_list.Cx :=
 ⟨w, w.heap.size, w.heap.size + 1, w.heap.size + 1 + 1, w.heap.size + 1 + 1 + 1, w.heap.size + 1 + 1 + 1 + 1, w.heap.size + 1 + 1 + 1 + 1 + 1, w.heap.size + 1 + 1 + 1 + 1 + 1 + 1, a0_0, a0_1, a0_2, a0_3, a1, A, c, l⟩
theorem pattern_list.begins (w : World) (a0_0 a0_1 a0_2 a0_3 : Int) (A : Option Addr) (c : Nat) (l : List Int) (a1 : Int) :
  pattern_list.Inv (pattern_list.cx w a0_0 a0_1 a0_2 a0_3 A c l a1) (pattern_list.start w a0_0 a0_1 a0_2 a0_3 A c l a1) (.slice none 0 0) [] (List.replicate l.length 0) := by
 have hsz : (pattern_list.start w a0_0 a0_1 a0_2 a0_3 A c l a1).heap.size = w.heap.size + 1 + 1 + 1 + 1 + 1 + 1 := by simp [pattern_list.start]
 have past : ∀ (W : World) (o : Obj) (g : Nat) (x : Obj), W.heap[g]? = some x → (W.alloc o).heap[g]? = some x := fun W o g x h => (Below.heap_alloc W o g (blk_lt h)).trans h
 have new : ∀ (W : World) (o : Obj) (n : Nat), W.heap.size = n → (W.alloc o).heap[n]? = some o := fun W o n h => by subst h; exact heap_alloc_new W o
 exact {
  below := by
   unfold pattern_list.start
   repeat (first | exact Below.refl _ _ | apply below_alloc)
  hd := by
   unfold pattern_list.start
   exact past _ _ _ _ (past _ _ _ _ (past _ _ _ _ (past _ _ _ _ (past _ _ _ _ (new _ _ _ rfl)))))
  hm := by
   unfold pattern_list.start
   exact past _ _ _ _ (past _ _ _ _ (past _ _ _ _ (past _ _ _ _ (new _ _ _ (by simp [pattern_list.cx])))))
  ho := by
   unfold pattern_list.start
   exact past _ _ _ _ (past _ _ _ _ (past _ _ _ _ (new _ _ _ (by simp [pattern_list.cx]))))
  hx := by
   unfold pattern_list.start
   exact past _ _ _ _ (past _ _ _ _ (new _ _ _ (by simp [pattern_list.cx])))
  hc := by
   unfold pattern_list.start
   exact past _ _ _ _ (new _ _ _ (by simp [pattern_list.cx]))
  hf := by
   unfold pattern_list.start
   exact new _ _ _ (by simp [pattern_list.cx])
  own := Kd.S_nil _ _ _ _ _
  len := by simp [pattern_list.cx]
  size := by rw [hsz]; exact Nat.le_refl _ }
theorem pattern_list.Inv.moved {q : pattern_list.Cx} (ok : pattern_list.Ok q) {w w1 : World} {v : Value} {out : List (List Int)} {cs : List Int} (I : pattern_list.Inv q w v out cs) (hb : Below w.heap.size w w1) : pattern_list.Inv q w1 v out cs := by
 have h0 := I.size
 have h1 := ok.od
 have h2 := ok.dm
 have h3 := ok.mo
 have h4 := ok.ox
 have h5 := ok.xc
 have h6 := ok.cf
 have h7 := ok.fB
 have far : ∀ (g : Nat) (x : Obj), w.heap[g]? = some x → w1.heap[g]? = some x := fun g x h => (hb.block g (blk_lt h)).trans h
 exact {
  below := I.below.trans (hb.mono (by omega))
  hd := far _ _ I.hd
  hm := far _ _ I.hm
  ho := far _ _ I.ho
  hx := far _ _ I.hx
  hc := far _ _ I.hc
  hf := far _ _ I.hf
  own := Kd.S_below I.own hb
  len := I.len
  size := Nat.le_trans h0 hb.size }

set_option maxHeartbeats 4000000 in
set_option maxRecDepth 100000 in
theorem pattern_list.calls (a0_0 : Int) (a0_1 : Int) (a0_2 : Int) (a0_3 : Int) (A0_4 : Option Addr) (c0_4 : Nat) (l0_4 : List Int) (a1 : Int) (r : List (List Int)) (w : World) (hr0_4 : Kd.C (Kd.int .i64) w A0_4 l0_4.length l0_4) (hc0_4 : l0_4.length ≤ c0_4) (h : pattern_list.f a0_0 a0_1 a0_2 a0_3 l0_4 a1 = some r) :
  Calls Try.prog 57 #[.agg #[.int .i64 a0_0, .int .i64 a0_1, .int .i64 a0_2, .int .i64 a0_3, .slice A0_4 l0_4.length c0_4], .int .i64 a1] w fun e w' => ∃ v0_ : Value, e = .returned (v0_) ∧ Kd.S (Kd.slice 3 (Kd.int .i64)) 30 w' w.heap.size (fun _ => True) v0_ r ∧ Below w.heap.size w w' := by
 unfold pattern_list.f at h
 split at h
 ·rename_i hp
  have H := Aside0.mk (Option.some.inj h)
  clear h
  obtain ⟨i0, hi, hz0, hz1, hz2⟩ := info_parts info3
  have hlen : l0_4.length ≤ 8 := hp.2.2.2.2.2.2.2.2.1
  have hmk : ∀ W : World, (Instr.makeSlice 30 (.int .i64 (l0_4.length : Int)) (.int .i64 (l0_4.length : Int))).run Try.prog W = .ok (.slice (some ⟨W.heap.size, 0, none⟩) l0_4.length l0_4.length) (W.alloc (.cells (nums .i64 (List.replicate l0_4.length 0)).toArray 3)) := fun W => by
   have := run_make (P := Try.prog) (w := W) 30 3 i0 (.int .i64 0) Try.underlying30 hi hz0 .i64 .i64 l0_4.length l0_4.length (by omega) (Int.le_refl _) (by rw [hz2]; omega) (by omega)
   rw [hz1, Int.toNat_natCast, pattern_list.madeZeros] at this
   exact this
  have hmf : ∀ (fn : Fn) (first cap : Array Value) (w : World), (Instr.makeFunc fn first cap).run Try.prog w = .ok (.func fn first cap) w := fun _ _ _ _ => rfl
  have HR := Aside0.mk hr0_4
  have HP := Aside0.mk hp
  clear hp hr0_4 hi hz0 hz1 hz2
  have hu32 := Try.underlying32
  go_enter Try.func57, Try.ntmps57
  go_wp2_with fail
  obtain ⟨W, hW⟩ : ∃ W, W = pattern_list.start w a0_0 a0_1 a0_2 a0_3 A0_4 c0_4 l0_4 a1 := ⟨_, rfl⟩
  have I := pattern_list.begins w a0_0 a0_1 a0_2 a0_3 A0_4 c0_4 l0_4 a1
  rw [← hW] at I
  have hW' := hW
  unfold pattern_list.start at hW'
  rw [← hW']
  clear hW hW' hmk
  have HI := Aside0.mk I
  have HOK := Aside0.mk (show pattern_list.Ok (pattern_list.cx w a0_0 a0_1 a0_2 a0_3 A0_4 c0_4 l0_4 a1) from ⟨HP.out, HR.out, Nat.le_refl _, Nat.lt_succ_self _, Nat.lt_succ_self _, Nat.lt_succ_self _, Nat.lt_succ_self _, Nat.lt_succ_self _, Nat.lt_succ_self _⟩)
  have e0 : W.cell? ⟨w.heap.size, 0, none⟩ = some (.int .i64 a0_0) := (blk_cell I.hd 0).trans rfl
  have e1 : W.cell? ⟨w.heap.size, 1, none⟩ = some (.int .i64 a0_1) := (blk_cell I.hd 1).trans rfl
  have e2 : W.cell? ⟨w.heap.size, 2, none⟩ = some (.int .i64 a0_2) := (blk_cell I.hd 2).trans rfl
  have e3 : W.cell? ⟨w.heap.size, 3, none⟩ = some (.int .i64 a0_3) := (blk_cell I.hd 3).trans rfl
  have e4 : W.cell? ⟨w.heap.size, 4, none⟩ = some (.slice A0_4 l0_4.length c0_4) := (blk_cell I.hd 4).trans rfl
  have e5 : W.cell? ⟨w.heap.size + 1 + 1 + 1 + 1 + 1, 0, none⟩ = some (Value.func (Fn.func 66) #[] #[Value.pointer (some { block := w.heap.size + 1 + 1, off := 0 }), Value.pointer (some { block := w.heap.size + 1, off := 0 }), Value.pointer (some { block := w.heap.size + 1 + 1 + 1 + 1, off := 0 }), Value.pointer (some { block := w.heap.size, off := 0 }), Value.pointer (some { block := w.heap.size + 1 + 1 + 1 + 1 + 1, off := 0 })]) := (blk_cell I.hf 0).trans rfl
  clear I
  have HU := Aside0.mk (show pattern_usable.f a0_0 a0_1 a0_2 a0_3 l0_4 = some (a0_0 - 2 * a0_1) by
   have := HP.out
   unfold pattern_list.Pre at this
   unfold pattern_usable.f wrap64
   congr 1
   omega)
  have HC := Aside0.mk (Kd.C_below (Kd.C_below HR.out HI.out.below) (below_drew (Below.refl _ _)))
  go_region_with (first
   | (go_at_call 60; refine (pattern_usable.calls a0_0 a0_1 a0_2 a0_3 A0_4 c0_4 l0_4 _ _ HC.out hc0_4 HU.out).mono ?_; rintro e w1 ⟨rfl, hb⟩; have I1 := HI.out.moved HOK.out ((below_drew (Below.refl _ _)).trans hb); have HI1 := Aside0.mk I1; have e3' : w1.cell? ⟨w.heap.size, 3, none⟩ = some (.int .i64 a0_3) := (blk_cell I1.hd 3).trans rfl; have e5' : w1.cell? ⟨w.heap.size + 1 + 1 + 1 + 1 + 1, 0, none⟩ = some (Value.func (Fn.func 66) #[] #[Value.pointer (some { block := w.heap.size + 1 + 1, off := 0 }), Value.pointer (some { block := w.heap.size + 1, off := 0 }), Value.pointer (some { block := w.heap.size + 1 + 1 + 1 + 1, off := 0 }), Value.pointer (some { block := w.heap.size, off := 0 }), Value.pointer (some { block := w.heap.size + 1 + 1 + 1 + 1 + 1, off := 0 })]) := (blk_cell I1.hf 0).trans rfl; clear I1 hb)
   | (go_at_call 66; refine (pattern_list.complete _ HOK.out l0_4 [] _ _ _ _ _ _ rfl (Nat.zero_le _) (by have := HP.out; unfold pattern_list.Pre at this; omega) (by have := HP.out; unfold pattern_list.Pre at this; omega) (by have := HP.out; unfold pattern_list.Pre at this; omega) (by have := HP.out; unfold pattern_list.Pre at this; omega) HI1.out rfl).mono ?_; rintro e w2 ⟨rfl, v2, cs2, I2, hcs2⟩; have HI2 := Aside0.mk I2; have e6 : w2.cell? ⟨w.heap.size + 1 + 1, 0, none⟩ = some v2 := (blk_cell I2.ho 0).trans rfl; clear I2 hcs2))
  all_goals (go_wp2; go_ret)
  all_goals exact ⟨_, rfl, by rw [← H.out]; exact Kd.S_lower HI2.out.own (by show w.heap.size ≤ w.heap.size + 1 + 1 + 1 + 1 + 1 + 1; omega), HI2.out.below⟩
 ·cases h


/-! ### pattern_Check: function 43 -/
def pattern_Check.f (k : Nat) (a0_0 : Int) (a0_1 : Int) (a0_2 : Int) (a0_3 : Int) (l0_4 : List Int) : Option (Int) := (pattern_ranges.f k a0_0 a0_1 a0_2 a0_3 l0_4).bind fun t133 => (if t133 = 0 then ((pattern_list.f a0_0 a0_1 a0_2 a0_3 l0_4 1025).bind fun t134 => (if (t134.length : Int) > 1024 then (some 8) else (some 0))) else (some t133))
theorem pattern_Check.mono : ∀ a0 a1 a2 a3 a4 k, LeO (pattern_Check.f k a0 a1 a2 a3 a4) (pattern_Check.f (k + 1) a0 a1 a2 a3 a4) := by
 intro a0 a1 a2 a3 a4 k
 unfold pattern_Check.f
 repeat' first
   | (with_reducible exact pattern_ranges.mono _ _ _ _ _ _)
   | (with_reducible exact LeO.refl _)
   | (with_reducible exact LeO.none _)
   | (with_reducible refine LeO.ite ?_ ?_)
   | (with_reducible refine LeO.bind ?_ (fun _ => ?_))
   | exact pattern_ranges.mono _ _ _ _ _ _
   | exact LeO.none _
   | refine LeO.ite ?_ ?_
   | refine LeO.bind ?_ (fun _ => ?_)
set_option maxHeartbeats 8000000 in
set_option maxRecDepth 100000 in
theorem pattern_Check.calls (k : Nat) (a0_0 : Int) (a0_1 : Int) (a0_2 : Int) (a0_3 : Int) (A0_4 : Option Addr) (c0_4 : Nat) (l0_4 : List Int) (r : Int) (w : World) (hr0_4 : Kd.C (Kd.int .i64) w A0_4 l0_4.length l0_4) (hc0_4 : l0_4.length ≤ c0_4) (h : pattern_Check.f k a0_0 a0_1 a0_2 a0_3 l0_4 = some r) :
  Calls Try.prog 43 #[.agg #[.int .i64 a0_0, .int .i64 a0_1, .int .i64 a0_2, .int .i64 a0_3, .slice A0_4 l0_4.length c0_4]] w fun e w' => e = .returned (.int .i64 r) ∧ Below w.heap.size w w' := by
 have hu32 := Try.underlying32
 have HR0_4 := Aside0.mk hr0_4
 have HC0_4 := Aside0.mk hc0_4
 clear hr0_4 hc0_4
 have HB := Aside0.mk (Below.refl w.heap.size w)
 have H : ((pattern_ranges.f k a0_0 a0_1 a0_2 a0_3 l0_4).bind fun t133 => (if t133 = 0 then ((pattern_list.f a0_0 a0_1 a0_2 a0_3 l0_4 1025).bind fun t134 => (if (t134.length : Int) > 1024 then (some 8) else (some 0))) else (some t133))) = some r := h
 clear h
 replace H := Option.bind_eq_some_iff.mp H
 obtain ⟨t133, A20, H⟩ := H
 replace H : (if t133 = 0 then ((pattern_list.f a0_0 a0_1 a0_2 a0_3 l0_4 1025).bind fun t134 => (if (t134.length : Int) > 1024 then (some 8) else (some 0))) else (some t133)) = some r := H
 have A2 := Aside0.mk A20
 clear A20
 by_cases c3 : t133 = 0
 ·rw [if_pos c3] at H
  have c3b0 : (t133 == 0) = true := beq_iff_eq.mpr c3
  have c3b1 : (t133 != 0) = false := bne_eq_false_iff_eq.mpr c3
  clear c3
  replace H := Option.bind_eq_some_iff.mp H
  obtain ⟨t134, A40, H⟩ := H
  replace H : (if (t134.length : Int) > 1024 then (some 8) else (some 0)) = some r := H
  have A4 := Aside0.mk A40
  clear A40
  by_cases c5 : (t134.length : Int) > 1024
  ·rw [if_pos c5] at H
   have c5b0 : decide (1024 < (t134.length : Int)) = true := decide_eq_true c5
   have c5b1 : decide (1024 < t134.length) = true := decide_eq_true (by omega)
   clear c5
   obtain rfl := Option.some.inj H
   go_enter Try.func43, Try.ntmps43
   go_wp2_with (first | ((with_reducible refine gate_dst (N := 1) rfl ?_); refine box_event ?hg (N := 1) ?hd (cs := #[.int .i64 a0_0, .int .i64 a0_1, .int .i64 a0_2, .int .i64 a0_3, .slice A0_4 l0_4.length c0_4]) (t := 32) ?hr ?_; (case hd => rfl); (case hg => rfl); (case hr => first | (go_simp; done) | (go_simp; rfl)); intro gb132 hg w6 hbox hb; have n0_ := Aside0.mk (below_step (by repeat (first | (with_reducible first | exact HB.out | apply below_alloc | apply pw_below_drewN | apply below_drew1) | exact HB.out)) hb); have n1_ := Aside0.mk (hbox); have n2_ := Aside0.mk ((by rw [hg]; exact (below_size (by repeat (first | (with_reducible first | exact HB.out | apply below_alloc | apply pw_below_drewN | apply below_drew1) | exact HB.out))) : w.heap.size ≤ gb132)); have n3_ := Aside0.mk ((by rw [hg]; exact (below_size (by repeat (first | (with_reducible first | exact HB.out | apply below_alloc | apply pw_below_drewN | apply below_drew1) | exact HB.out))) : w.heap.size ≤ gb132)); clear HB; have HB := n0_; have BK132 := n1_; have GW132 := n2_; have GE132 := n3_; clear n0_ n1_ n2_ n3_; clear hb hbox hg; have hcz7_0 : w6.cell? ⟨gb132, 0, none⟩ = some (.int .i64 a0_0) := (blk_cell BK132.out 0).trans rfl; have hcz7_1 : w6.cell? ⟨gb132, 1, none⟩ = some (.int .i64 a0_1) := (blk_cell BK132.out 1).trans rfl; have hcz7_2 : w6.cell? ⟨gb132, 2, none⟩ = some (.int .i64 a0_2) := (blk_cell BK132.out 2).trans rfl; have hcz7_3 : w6.cell? ⟨gb132, 3, none⟩ = some (.int .i64 a0_3) := (blk_cell BK132.out 3).trans rfl; have hcz7_4 : w6.cell? ⟨gb132, 4, none⟩ = some (.slice A0_4 l0_4.length c0_4) := (blk_cell BK132.out 4).trans rfl; have hfz7_0 := blk_frozen BK132.out 0; have hfz7_1 := blk_frozen BK132.out 1; have hfz7_2 := blk_frozen BK132.out 2; have hfz7_3 := blk_frozen BK132.out 3; have hfz7_4 := blk_frozen BK132.out 4) | ((with_reducible refine gate_callee (f := 56) rfl ?_); refine goesL_ (some 5) rfl rfl Try.func56 (by kernel_rfl) rfl #[.agg #[.int .i64 a0_0, .int .i64 a0_1, .int .i64 a0_2, .int .i64 a0_3, .slice A0_4 l0_4.length c0_4]] rfl (by (try simp only [List.map_toArray, List.map_cons, List.map_nil]); first | done | rfl | (simp only [List.length_drop, List.length_take]; rfl)) ?_; (with_reducible refine (pattern_ranges.calls k a0_0 a0_1 a0_2 a0_3 _ _ l0_4 t133 _ ?side1 ?side2 A2.out).mono ?_); (case side1 => repeat (first | exact (Kd.C_below HR0_4.out HB.out) | (with_reducible refine Kd.C_alloc ?_ _) | (with_reducible refine Kd.C_drewN ?_ _) | (with_reducible refine Kd.C_drew ?_))); (case side2 => exact HC0_4.out); rintro e w8 ⟨rfl, hb⟩; refine ⟨_, rfl, ?_⟩; have n0_ := Aside0.mk (blk_below (g := gb132) (o := .cells #[.int .i64 a0_0, .int .i64 a0_1, .int .i64 a0_2, .int .i64 a0_3, .slice A0_4 l0_4.length c0_4] 32 (0, 0)) (by (with_reducible repeat (first | refine blk_drewN ?_ _ | refine blk_drew ?_ | refine blk_alloc ?_ _)); exact BK132.out) hb); have n1_ := Aside0.mk (below_step (by repeat (first | (with_reducible first | exact HB.out | apply below_alloc | apply pw_below_drewN | apply below_drew1 | refine below_set ?_ GE132.out) | exact HB.out)) hb); clear BK132; clear HB; have BK132 := n0_; have HB := n1_; clear n0_ n1_; (try clear hb); (try clear hb2); (try clear hk); (try clear hi); have hcz9_0 : w8.cell? ⟨gb132, 0, none⟩ = some (.int .i64 a0_0) := (blk_cell BK132.out 0).trans rfl; have hcz9_1 : w8.cell? ⟨gb132, 1, none⟩ = some (.int .i64 a0_1) := (blk_cell BK132.out 1).trans rfl; have hcz9_2 : w8.cell? ⟨gb132, 2, none⟩ = some (.int .i64 a0_2) := (blk_cell BK132.out 2).trans rfl; have hcz9_3 : w8.cell? ⟨gb132, 3, none⟩ = some (.int .i64 a0_3) := (blk_cell BK132.out 3).trans rfl; have hcz9_4 : w8.cell? ⟨gb132, 4, none⟩ = some (.slice A0_4 l0_4.length c0_4) := (blk_cell BK132.out 4).trans rfl; have hfz9_0 := blk_frozen BK132.out 0; have hfz9_1 := blk_frozen BK132.out 1; have hfz9_2 := blk_frozen BK132.out 2; have hfz9_3 := blk_frozen BK132.out 3; have hfz9_4 := blk_frozen BK132.out 4) | ((with_reducible refine gate_callee (f := 57) rfl ?_); refine goesL_ (some 10) rfl rfl Try.func57 (by kernel_rfl) rfl #[.agg #[.int .i64 a0_0, .int .i64 a0_1, .int .i64 a0_2, .int .i64 a0_3, .slice A0_4 l0_4.length c0_4], .int .i64 1025] rfl (by (try simp only [List.map_toArray, List.map_cons, List.map_nil]); first | done | rfl | (simp only [List.length_drop, List.length_take]; rfl)) ?_; (with_reducible refine (pattern_list.calls a0_0 a0_1 a0_2 a0_3 _ _ l0_4 1025 t134 _ ?side1 ?side2 A4.out).mono ?_); (case side1 => repeat (first | exact (Kd.C_below HR0_4.out HB.out) | (with_reducible refine Kd.C_alloc ?_ _) | (with_reducible refine Kd.C_drewN ?_ _) | (with_reducible refine Kd.C_drew ?_))); (case side2 => exact HC0_4.out); rintro e w10 ⟨v135, rfl, ho0, hb⟩; refine ⟨_, rfl, ?_⟩; have n0_ := Aside0.mk (Kd.S_lower ho0 (below_size (by repeat (first | (with_reducible first | exact HB.out | apply below_alloc | apply pw_below_drewN | apply below_drew1 | refine below_set ?_ GE132.out) | exact HB.out)))); have n1_ := Aside0.mk (blk_below (g := gb132) (o := .cells #[.int .i64 a0_0, .int .i64 a0_1, .int .i64 a0_2, .int .i64 a0_3, .slice A0_4 l0_4.length c0_4] 32 (0, 0)) (by (with_reducible repeat (first | refine blk_drewN ?_ _ | refine blk_drew ?_ | refine blk_alloc ?_ _)); exact BK132.out) hb); have n2_ := Aside0.mk (below_step (by repeat (first | (with_reducible first | exact HB.out | apply below_alloc | apply pw_below_drewN | apply below_drew1 | refine below_set ?_ GE132.out) | exact HB.out)) hb); clear BK132; clear HB; have HO136 := n0_; have BK132 := n1_; have HB := n2_; clear n0_ n1_ n2_; (try clear hb); (try clear hb2); (try clear hk); (try clear hi); (try clear ho0); obtain ⟨Ao11, co11, eo11⟩ := Kd.S_slice HO136.out; subst eo11))
   go_ret
   exact ⟨by first | rfl | (simp [errW_none, errW_some] <;> rfl) | (simp [*, errW_none, errW_some] <;> rfl), by repeat (first | (with_reducible first | exact HB.out | apply below_alloc | apply pw_below_drewN | apply below_drew1 | refine below_set ?_ GE132.out) | exact HB.out)⟩
  ·rw [if_neg c5] at H
   have c5b0 : decide (1024 < (t134.length : Int)) = false := decide_eq_false c5
   have c5b1 : decide (1024 < t134.length) = false := decide_eq_false (by omega)
   clear c5
   obtain rfl := Option.some.inj H
   go_enter Try.func43, Try.ntmps43
   go_wp2_with (first | ((with_reducible refine gate_dst (N := 1) rfl ?_); refine box_event ?hg (N := 1) ?hd (cs := #[.int .i64 a0_0, .int .i64 a0_1, .int .i64 a0_2, .int .i64 a0_3, .slice A0_4 l0_4.length c0_4]) (t := 32) ?hr ?_; (case hd => rfl); (case hg => rfl); (case hr => first | (go_simp; done) | (go_simp; rfl)); intro gb132 hg w12 hbox hb; have n0_ := Aside0.mk (below_step (by repeat (first | (with_reducible first | exact HB.out | apply below_alloc | apply pw_below_drewN | apply below_drew1) | exact HB.out)) hb); have n1_ := Aside0.mk (hbox); have n2_ := Aside0.mk ((by rw [hg]; exact (below_size (by repeat (first | (with_reducible first | exact HB.out | apply below_alloc | apply pw_below_drewN | apply below_drew1) | exact HB.out))) : w.heap.size ≤ gb132)); have n3_ := Aside0.mk ((by rw [hg]; exact (below_size (by repeat (first | (with_reducible first | exact HB.out | apply below_alloc | apply pw_below_drewN | apply below_drew1) | exact HB.out))) : w.heap.size ≤ gb132)); clear HB; have HB := n0_; have BK132 := n1_; have GW132 := n2_; have GE132 := n3_; clear n0_ n1_ n2_ n3_; clear hb hbox hg; have hcz13_0 : w12.cell? ⟨gb132, 0, none⟩ = some (.int .i64 a0_0) := (blk_cell BK132.out 0).trans rfl; have hcz13_1 : w12.cell? ⟨gb132, 1, none⟩ = some (.int .i64 a0_1) := (blk_cell BK132.out 1).trans rfl; have hcz13_2 : w12.cell? ⟨gb132, 2, none⟩ = some (.int .i64 a0_2) := (blk_cell BK132.out 2).trans rfl; have hcz13_3 : w12.cell? ⟨gb132, 3, none⟩ = some (.int .i64 a0_3) := (blk_cell BK132.out 3).trans rfl; have hcz13_4 : w12.cell? ⟨gb132, 4, none⟩ = some (.slice A0_4 l0_4.length c0_4) := (blk_cell BK132.out 4).trans rfl; have hfz13_0 := blk_frozen BK132.out 0; have hfz13_1 := blk_frozen BK132.out 1; have hfz13_2 := blk_frozen BK132.out 2; have hfz13_3 := blk_frozen BK132.out 3; have hfz13_4 := blk_frozen BK132.out 4) | ((with_reducible refine gate_callee (f := 56) rfl ?_); refine goesL_ (some 5) rfl rfl Try.func56 (by kernel_rfl) rfl #[.agg #[.int .i64 a0_0, .int .i64 a0_1, .int .i64 a0_2, .int .i64 a0_3, .slice A0_4 l0_4.length c0_4]] rfl (by (try simp only [List.map_toArray, List.map_cons, List.map_nil]); first | done | rfl | (simp only [List.length_drop, List.length_take]; rfl)) ?_; (with_reducible refine (pattern_ranges.calls k a0_0 a0_1 a0_2 a0_3 _ _ l0_4 t133 _ ?side1 ?side2 A2.out).mono ?_); (case side1 => repeat (first | exact (Kd.C_below HR0_4.out HB.out) | (with_reducible refine Kd.C_alloc ?_ _) | (with_reducible refine Kd.C_drewN ?_ _) | (with_reducible refine Kd.C_drew ?_))); (case side2 => exact HC0_4.out); rintro e w14 ⟨rfl, hb⟩; refine ⟨_, rfl, ?_⟩; have n0_ := Aside0.mk (blk_below (g := gb132) (o := .cells #[.int .i64 a0_0, .int .i64 a0_1, .int .i64 a0_2, .int .i64 a0_3, .slice A0_4 l0_4.length c0_4] 32 (0, 0)) (by (with_reducible repeat (first | refine blk_drewN ?_ _ | refine blk_drew ?_ | refine blk_alloc ?_ _)); exact BK132.out) hb); have n1_ := Aside0.mk (below_step (by repeat (first | (with_reducible first | exact HB.out | apply below_alloc | apply pw_below_drewN | apply below_drew1 | refine below_set ?_ GE132.out) | exact HB.out)) hb); clear BK132; clear HB; have BK132 := n0_; have HB := n1_; clear n0_ n1_; (try clear hb); (try clear hb2); (try clear hk); (try clear hi); have hcz15_0 : w14.cell? ⟨gb132, 0, none⟩ = some (.int .i64 a0_0) := (blk_cell BK132.out 0).trans rfl; have hcz15_1 : w14.cell? ⟨gb132, 1, none⟩ = some (.int .i64 a0_1) := (blk_cell BK132.out 1).trans rfl; have hcz15_2 : w14.cell? ⟨gb132, 2, none⟩ = some (.int .i64 a0_2) := (blk_cell BK132.out 2).trans rfl; have hcz15_3 : w14.cell? ⟨gb132, 3, none⟩ = some (.int .i64 a0_3) := (blk_cell BK132.out 3).trans rfl; have hcz15_4 : w14.cell? ⟨gb132, 4, none⟩ = some (.slice A0_4 l0_4.length c0_4) := (blk_cell BK132.out 4).trans rfl; have hfz15_0 := blk_frozen BK132.out 0; have hfz15_1 := blk_frozen BK132.out 1; have hfz15_2 := blk_frozen BK132.out 2; have hfz15_3 := blk_frozen BK132.out 3; have hfz15_4 := blk_frozen BK132.out 4) | ((with_reducible refine gate_callee (f := 57) rfl ?_); refine goesL_ (some 10) rfl rfl Try.func57 (by kernel_rfl) rfl #[.agg #[.int .i64 a0_0, .int .i64 a0_1, .int .i64 a0_2, .int .i64 a0_3, .slice A0_4 l0_4.length c0_4], .int .i64 1025] rfl (by (try simp only [List.map_toArray, List.map_cons, List.map_nil]); first | done | rfl | (simp only [List.length_drop, List.length_take]; rfl)) ?_; (with_reducible refine (pattern_list.calls a0_0 a0_1 a0_2 a0_3 _ _ l0_4 1025 t134 _ ?side1 ?side2 A4.out).mono ?_); (case side1 => repeat (first | exact (Kd.C_below HR0_4.out HB.out) | (with_reducible refine Kd.C_alloc ?_ _) | (with_reducible refine Kd.C_drewN ?_ _) | (with_reducible refine Kd.C_drew ?_))); (case side2 => exact HC0_4.out); rintro e w16 ⟨v135, rfl, ho0, hb⟩; refine ⟨_, rfl, ?_⟩; have n0_ := Aside0.mk (Kd.S_lower ho0 (below_size (by repeat (first | (with_reducible first | exact HB.out | apply below_alloc | apply pw_below_drewN | apply below_drew1 | refine below_set ?_ GE132.out) | exact HB.out)))); have n1_ := Aside0.mk (blk_below (g := gb132) (o := .cells #[.int .i64 a0_0, .int .i64 a0_1, .int .i64 a0_2, .int .i64 a0_3, .slice A0_4 l0_4.length c0_4] 32 (0, 0)) (by (with_reducible repeat (first | refine blk_drewN ?_ _ | refine blk_drew ?_ | refine blk_alloc ?_ _)); exact BK132.out) hb); have n2_ := Aside0.mk (below_step (by repeat (first | (with_reducible first | exact HB.out | apply below_alloc | apply pw_below_drewN | apply below_drew1 | refine below_set ?_ GE132.out) | exact HB.out)) hb); clear BK132; clear HB; have HO136 := n0_; have BK132 := n1_; have HB := n2_; clear n0_ n1_ n2_; (try clear hb); (try clear hb2); (try clear hk); (try clear hi); (try clear ho0); obtain ⟨Ao17, co17, eo17⟩ := Kd.S_slice HO136.out; subst eo17))
   go_ret
   exact ⟨by first | rfl | (simp [errW_none, errW_some] <;> rfl) | (simp [*, errW_none, errW_some] <;> rfl), by repeat (first | (with_reducible first | exact HB.out | apply below_alloc | apply pw_below_drewN | apply below_drew1 | refine below_set ?_ GE132.out) | exact HB.out)⟩
 ·rw [if_neg c3] at H
  have c3b0 : (t133 == 0) = false := beq_eq_false_iff_ne.mpr c3
  have c3b1 : (t133 != 0) = true := bne_iff_ne.mpr c3
  obtain rfl := Option.some.inj H
  go_enter Try.func43, Try.ntmps43
  go_wp2_with (first | ((with_reducible refine gate_dst (N := 1) rfl ?_); refine box_event ?hg (N := 1) ?hd (cs := #[.int .i64 a0_0, .int .i64 a0_1, .int .i64 a0_2, .int .i64 a0_3, .slice A0_4 l0_4.length c0_4]) (t := 32) ?hr ?_; (case hd => rfl); (case hg => rfl); (case hr => first | (go_simp; done) | (go_simp; rfl)); intro gb132 hg w18 hbox hb; have n0_ := Aside0.mk (below_step (by repeat (first | (with_reducible first | exact HB.out | apply below_alloc | apply pw_below_drewN | apply below_drew1) | exact HB.out)) hb); have n1_ := Aside0.mk (hbox); have n2_ := Aside0.mk ((by rw [hg]; exact (below_size (by repeat (first | (with_reducible first | exact HB.out | apply below_alloc | apply pw_below_drewN | apply below_drew1) | exact HB.out))) : w.heap.size ≤ gb132)); have n3_ := Aside0.mk ((by rw [hg]; exact (below_size (by repeat (first | (with_reducible first | exact HB.out | apply below_alloc | apply pw_below_drewN | apply below_drew1) | exact HB.out))) : w.heap.size ≤ gb132)); clear HB; have HB := n0_; have BK132 := n1_; have GW132 := n2_; have GE132 := n3_; clear n0_ n1_ n2_ n3_; clear hb hbox hg; have hcz19_0 : w18.cell? ⟨gb132, 0, none⟩ = some (.int .i64 a0_0) := (blk_cell BK132.out 0).trans rfl; have hcz19_1 : w18.cell? ⟨gb132, 1, none⟩ = some (.int .i64 a0_1) := (blk_cell BK132.out 1).trans rfl; have hcz19_2 : w18.cell? ⟨gb132, 2, none⟩ = some (.int .i64 a0_2) := (blk_cell BK132.out 2).trans rfl; have hcz19_3 : w18.cell? ⟨gb132, 3, none⟩ = some (.int .i64 a0_3) := (blk_cell BK132.out 3).trans rfl; have hcz19_4 : w18.cell? ⟨gb132, 4, none⟩ = some (.slice A0_4 l0_4.length c0_4) := (blk_cell BK132.out 4).trans rfl; have hfz19_0 := blk_frozen BK132.out 0; have hfz19_1 := blk_frozen BK132.out 1; have hfz19_2 := blk_frozen BK132.out 2; have hfz19_3 := blk_frozen BK132.out 3; have hfz19_4 := blk_frozen BK132.out 4) | ((with_reducible refine gate_callee (f := 56) rfl ?_); refine goesL_ (some 5) rfl rfl Try.func56 (by kernel_rfl) rfl #[.agg #[.int .i64 a0_0, .int .i64 a0_1, .int .i64 a0_2, .int .i64 a0_3, .slice A0_4 l0_4.length c0_4]] rfl (by (try simp only [List.map_toArray, List.map_cons, List.map_nil]); first | done | rfl | (simp only [List.length_drop, List.length_take]; rfl)) ?_; (with_reducible refine (pattern_ranges.calls k a0_0 a0_1 a0_2 a0_3 _ _ l0_4 t133 _ ?side1 ?side2 A2.out).mono ?_); (case side1 => repeat (first | exact (Kd.C_below HR0_4.out HB.out) | (with_reducible refine Kd.C_alloc ?_ _) | (with_reducible refine Kd.C_drewN ?_ _) | (with_reducible refine Kd.C_drew ?_))); (case side2 => exact HC0_4.out); rintro e w20 ⟨rfl, hb⟩; refine ⟨_, rfl, ?_⟩; have n0_ := Aside0.mk (blk_below (g := gb132) (o := .cells #[.int .i64 a0_0, .int .i64 a0_1, .int .i64 a0_2, .int .i64 a0_3, .slice A0_4 l0_4.length c0_4] 32 (0, 0)) (by (with_reducible repeat (first | refine blk_drewN ?_ _ | refine blk_drew ?_ | refine blk_alloc ?_ _)); exact BK132.out) hb); have n1_ := Aside0.mk (below_step (by repeat (first | (with_reducible first | exact HB.out | apply below_alloc | apply pw_below_drewN | apply below_drew1 | refine below_set ?_ GE132.out) | exact HB.out)) hb); clear BK132; clear HB; have BK132 := n0_; have HB := n1_; clear n0_ n1_; (try clear hb); (try clear hb2); (try clear hk); (try clear hi)))
  go_ret
  exact ⟨by first | rfl | (simp [errW_none, errW_some] <;> rfl) | (simp [*, errW_none, errW_some] <;> rfl), by repeat (first | (with_reducible first | exact HB.out | apply below_alloc | apply pw_below_drewN | apply below_drew1 | refine below_set ?_ GE132.out) | exact HB.out)⟩


/-! ### slices_Min_int_int: function 58 -/
def slices_Min_int_int.l0 : Nat → List Int → Int → Int → Option (Int)
 | 0, _, _, _ => none
 | k + 1, x0, x3, x4 => if x4 < (x0.length : Int) then (if 0 ≤ x4 then (slices_Min_int_int.l0 k x0 (mn x3 (rd x0 x4)) (wrap64 (x4 + 1))) else (none)) else (some x3)
def slices_Min_int_int.f (k : Nat) (l0 : List Int) : Option (Int) := if (l0.length : Int) < 1 then (none) else (if 0 < (l0.length : Int) then (slices_Min_int_int.l0 k l0 (rd l0 0) 1) else (none))
theorem slices_Min_int_int.mono_l : ∀ k, (∀ y0 y1 y2, LeO (slices_Min_int_int.l0 k y0 y1 y2) (slices_Min_int_int.l0 (k + 1) y0 y1 y2))
 | 0 => fun _ _ _ r h => by simp [slices_Min_int_int.l0] at h
 | k + 1 => by
  have ih0 := slices_Min_int_int.mono_l k
  ·intro y0 y1 y2
   unfold slices_Min_int_int.l0
   repeat' first
   | (with_reducible exact ih0 _ _ _)
   | (with_reducible exact LeO.refl _)
   | (with_reducible exact LeO.none _)
   | (with_reducible refine LeO.ite ?_ ?_)
   | (with_reducible refine LeO.bind ?_ (fun _ => ?_))
   | exact ih0 _ _ _
   | exact LeO.none _
   | refine LeO.ite ?_ ?_
   | refine LeO.bind ?_ (fun _ => ?_)
theorem slices_Min_int_int.mono : ∀ a0 k, LeO (slices_Min_int_int.f k a0) (slices_Min_int_int.f (k + 1) a0) := by
 intro a0 k
 have ih0 := slices_Min_int_int.mono_l k
 unfold slices_Min_int_int.f
 repeat' first
   | (with_reducible exact ih0 _ _ _)
   | (with_reducible exact LeO.refl _)
   | (with_reducible exact LeO.none _)
   | (with_reducible refine LeO.ite ?_ ?_)
   | (with_reducible refine LeO.bind ?_ (fun _ => ?_))
   | exact ih0 _ _ _
   | exact LeO.none _
   | refine LeO.ite ?_ ?_
   | refine LeO.bind ?_ (fun _ => ?_)
set_option maxHeartbeats 8000000 in
set_option maxRecDepth 100000 in
theorem slices_Min_int_int.calls (k : Nat) (A0 : Option Addr) (c0 : Nat) (l0 : List Int) (r : Int) (w : World) (hr0 : Kd.C (Kd.int .i64) w A0 l0.length l0) (hc0 : l0.length ≤ c0) (h : slices_Min_int_int.f k l0 = some r) :
  Calls Try.prog 58 #[.slice A0 l0.length c0] w fun e w' => e = .returned (.int .i64 r) ∧ Below w.heap.size w w' := by
 have HR0 := Aside0.mk hr0
 have HC0 := Aside0.mk hc0
 clear hr0 hc0
 have HB := Aside0.mk (Below.refl w.heap.size w)
 have H : (if (l0.length : Int) < 1 then (none) else (if 0 < (l0.length : Int) then (slices_Min_int_int.l0 k l0 (rd l0 0) 1) else (none))) = some r := h
 clear h
 by_cases c2 : (l0.length : Int) < 1
 ·rw [if_pos c2] at H
  exact absurd H (by simp)
 ·rw [if_neg c2] at H
  have c2b0 : decide ((l0.length : Int) < 1) = false := decide_eq_false c2
  have c2b1 : decide (l0.length < 1) = false := decide_eq_false (by omega)
  clear c2
  by_cases c3 : 0 < (l0.length : Int)
  ·rw [if_pos c3] at H
   have c3b0 : decide (0 < (l0.length : Int)) = true := decide_eq_true c3
   have c3b1 : decide (0 < l0.length) = true := decide_eq_true (by omega)
   clear c3
   have H' := Aside0.mk H
   clear H
   have p137 : 0 ≤ (0 : Int) := (by omega)
   have q137 : 0 < (l0.length : Int) := of_decide_eq_true (by first | (with_reducible assumption) | assumption)
   obtain ⟨ad137, e137, hx137_0⟩ := Kd.at_int HR0.out 0 p137 q137
   cases e137
   have qi137 : (0 < l0.length) = True := eq_true (by omega)
   (try rw [show ((0 : Int)).toNat = 0 from rfl] at hx137_0)
   (try rw [Addr.add_zero'] at hx137_0)
   replace p137 := eq_true p137
   replace q137 := eq_true q137
   go_enter Try.func58, Try.ntmps58
   go_wp2
   go_loopg [3, 4] k (fun kq v3 v4 w' => ∃ (x3_1 : Int) (x4_1 : Int), v3 = .int .i64 x3_1 ∧ v4 = .int .i64 x4_1 ∧ Aside0 (slices_Min_int_int.l0 kq l0 x3_1 x4_1 = some r) ∧ Aside0 (kq ≤ k) ∧ Aside0 (Below w.heap.size w w'))
   case atStart => exact ⟨(rd l0 0), (1), (by first | rfl | (simp; done) | (simp [*]; done)), (by first | rfl | (simp; done) | (simp [*]; done)), H', ⟨Nat.le_refl _⟩, ⟨by repeat (first | (with_reducible first | exact HB.out | apply below_alloc | apply pw_below_drewN | apply below_drew1) | exact HB.out)⟩⟩
   case round =>
    clear H'
    try clear p1
    try clear q1
    try clear hx1
    try clear qi1
    try clear c2
    try clear c2b0
    try clear c2b1
    try clear p2
    try clear c3
    try clear c3b0
    try clear c3b1
    try clear hx137_0
    try clear p137
    try clear q137
    obtain ⟨x3_1, x4_1, rfl, rfl, HA, HK1, HB⟩ := hrel
    cases gk with
    | zero => exact absurd HA.out (by simp [slices_Min_int_int.l0])
    | succ k1 =>
     have H := HA.out
     clear HA
     simp only [slices_Min_int_int.l0] at H
     by_cases c4 : x4_1 < (l0.length : Int)
     ·rw [if_pos c4] at H
      have c4b0 : decide (x4_1 < (l0.length : Int)) = true := decide_eq_true c4
      clear c4
      by_cases c5 : 0 ≤ x4_1
      ·rw [if_pos c5] at H
       have c5b0 : decide (0 ≤ x4_1) = true := decide_eq_true c5
       clear c5
       obtain ⟨ji6, hji6⟩ : ∃ j_ : Int, (mn x3_1 (rd l0 x4_1)) = j_ := ⟨_, rfl⟩
       replace H : (slices_Min_int_int.l0 k1 l0 ji6 (wrap64 (x4_1 + 1))) = some r := by first | (rw [hji6] at H; exact H) | (simp only [hji6] at H ⊢; exact H)
       have hji6_ : (if (rd l0 x4_1) < x3_1 then (rd l0 x4_1) else x3_1) = ji6 := hji6
       have H' := Aside0.mk H
       clear H
       have p138 : 0 ≤ (x4_1 : Int) := of_decide_eq_true (by first | (with_reducible assumption) | assumption)
       have q138 : x4_1 < (l0.length : Int) := of_decide_eq_true (by first | (with_reducible assumption) | assumption)
       obtain ⟨ad138, e138, hx138_0⟩ := Kd.at_int HR0.out x4_1 p138 q138
       obtain rfl : ad137 = ad138 := (by injection e138)
       replace hx138_0 := (HB.out.cell (World.block_lt_of_cell? w _ hx138_0)).trans hx138_0
       replace p138 := eq_true p138
       replace q138 := eq_true q138
       go_wp2
       go_roundg k1
       case measure => have := HK1.out; omega
       case rel => exact ⟨(ji6), (wrap64 (x4_1 + 1)), (by first | rfl | (simp; done) | (simp only [← hji6] <;> (first | rfl | simp)) | (simp [*]; done)), (by first | rfl | (simp; done) | (simp [*]; done)), H', ⟨by have := HK1.out; omega⟩, ⟨by repeat (first | (with_reducible first | exact HB.out | apply below_alloc | apply pw_below_drewN | apply below_drew1) | exact HB.out)⟩⟩
      ·rw [if_neg c5] at H
       exact absurd H (by simp)
     ·rw [if_neg c4] at H
      have c4b0 : decide (x4_1 < (l0.length : Int)) = false := decide_eq_false c4
      clear c4
      obtain rfl := Option.some.inj H
      go_wp2
      go_ret
      exact ⟨by first | rfl | (simp [errW_none, errW_some] <;> rfl) | (simp [*, errW_none, errW_some] <;> rfl), by repeat (first | (with_reducible first | exact HB.out | apply below_alloc | apply pw_below_drewN | apply below_drew1) | exact HB.out)⟩
  ·rw [if_neg c3] at H
   exact absurd H (by simp)


/-! ### slices_Max_int_int: function 59 -/
def slices_Max_int_int.l0 : Nat → List Int → Int → Int → Option (Int)
 | 0, _, _, _ => none
 | k + 1, x0, x3, x4 => if x4 < (x0.length : Int) then (if 0 ≤ x4 then (slices_Max_int_int.l0 k x0 (mx x3 (rd x0 x4)) (wrap64 (x4 + 1))) else (none)) else (some x3)
def slices_Max_int_int.f (k : Nat) (l0 : List Int) : Option (Int) := if (l0.length : Int) < 1 then (none) else (if 0 < (l0.length : Int) then (slices_Max_int_int.l0 k l0 (rd l0 0) 1) else (none))
theorem slices_Max_int_int.mono_l : ∀ k, (∀ y0 y1 y2, LeO (slices_Max_int_int.l0 k y0 y1 y2) (slices_Max_int_int.l0 (k + 1) y0 y1 y2))
 | 0 => fun _ _ _ r h => by simp [slices_Max_int_int.l0] at h
 | k + 1 => by
  have ih0 := slices_Max_int_int.mono_l k
  ·intro y0 y1 y2
   unfold slices_Max_int_int.l0
   repeat' first
   | (with_reducible exact ih0 _ _ _)
   | (with_reducible exact LeO.refl _)
   | (with_reducible exact LeO.none _)
   | (with_reducible refine LeO.ite ?_ ?_)
   | (with_reducible refine LeO.bind ?_ (fun _ => ?_))
   | exact ih0 _ _ _
   | exact LeO.none _
   | refine LeO.ite ?_ ?_
   | refine LeO.bind ?_ (fun _ => ?_)
theorem slices_Max_int_int.mono : ∀ a0 k, LeO (slices_Max_int_int.f k a0) (slices_Max_int_int.f (k + 1) a0) := by
 intro a0 k
 have ih0 := slices_Max_int_int.mono_l k
 unfold slices_Max_int_int.f
 repeat' first
   | (with_reducible exact ih0 _ _ _)
   | (with_reducible exact LeO.refl _)
   | (with_reducible exact LeO.none _)
   | (with_reducible refine LeO.ite ?_ ?_)
   | (with_reducible refine LeO.bind ?_ (fun _ => ?_))
   | exact ih0 _ _ _
   | exact LeO.none _
   | refine LeO.ite ?_ ?_
   | refine LeO.bind ?_ (fun _ => ?_)
set_option maxHeartbeats 8000000 in
set_option maxRecDepth 100000 in
theorem slices_Max_int_int.calls (k : Nat) (A0 : Option Addr) (c0 : Nat) (l0 : List Int) (r : Int) (w : World) (hr0 : Kd.C (Kd.int .i64) w A0 l0.length l0) (hc0 : l0.length ≤ c0) (h : slices_Max_int_int.f k l0 = some r) :
  Calls Try.prog 59 #[.slice A0 l0.length c0] w fun e w' => e = .returned (.int .i64 r) ∧ Below w.heap.size w w' := by
 have HR0 := Aside0.mk hr0
 have HC0 := Aside0.mk hc0
 clear hr0 hc0
 have HB := Aside0.mk (Below.refl w.heap.size w)
 have H : (if (l0.length : Int) < 1 then (none) else (if 0 < (l0.length : Int) then (slices_Max_int_int.l0 k l0 (rd l0 0) 1) else (none))) = some r := h
 clear h
 by_cases c2 : (l0.length : Int) < 1
 ·rw [if_pos c2] at H
  exact absurd H (by simp)
 ·rw [if_neg c2] at H
  have c2b0 : decide ((l0.length : Int) < 1) = false := decide_eq_false c2
  have c2b1 : decide (l0.length < 1) = false := decide_eq_false (by omega)
  clear c2
  by_cases c3 : 0 < (l0.length : Int)
  ·rw [if_pos c3] at H
   have c3b0 : decide (0 < (l0.length : Int)) = true := decide_eq_true c3
   have c3b1 : decide (0 < l0.length) = true := decide_eq_true (by omega)
   clear c3
   have H' := Aside0.mk H
   clear H
   have p139 : 0 ≤ (0 : Int) := (by omega)
   have q139 : 0 < (l0.length : Int) := of_decide_eq_true (by first | (with_reducible assumption) | assumption)
   obtain ⟨ad139, e139, hx139_0⟩ := Kd.at_int HR0.out 0 p139 q139
   cases e139
   have qi139 : (0 < l0.length) = True := eq_true (by omega)
   (try rw [show ((0 : Int)).toNat = 0 from rfl] at hx139_0)
   (try rw [Addr.add_zero'] at hx139_0)
   replace p139 := eq_true p139
   replace q139 := eq_true q139
   go_enter Try.func59, Try.ntmps59
   go_wp2
   go_loopg [3, 4] k (fun kq v3 v4 w' => ∃ (x3_1 : Int) (x4_1 : Int), v3 = .int .i64 x3_1 ∧ v4 = .int .i64 x4_1 ∧ Aside0 (slices_Max_int_int.l0 kq l0 x3_1 x4_1 = some r) ∧ Aside0 (kq ≤ k) ∧ Aside0 (Below w.heap.size w w'))
   case atStart => exact ⟨(rd l0 0), (1), (by first | rfl | (simp; done) | (simp [*]; done)), (by first | rfl | (simp; done) | (simp [*]; done)), H', ⟨Nat.le_refl _⟩, ⟨by repeat (first | (with_reducible first | exact HB.out | apply below_alloc | apply pw_below_drewN | apply below_drew1) | exact HB.out)⟩⟩
   case round =>
    clear H'
    try clear p1
    try clear q1
    try clear hx1
    try clear qi1
    try clear c2
    try clear c2b0
    try clear c2b1
    try clear p2
    try clear c3
    try clear c3b0
    try clear c3b1
    try clear hx139_0
    try clear p139
    try clear q139
    obtain ⟨x3_1, x4_1, rfl, rfl, HA, HK1, HB⟩ := hrel
    cases gk with
    | zero => exact absurd HA.out (by simp [slices_Max_int_int.l0])
    | succ k1 =>
     have H := HA.out
     clear HA
     simp only [slices_Max_int_int.l0] at H
     by_cases c4 : x4_1 < (l0.length : Int)
     ·rw [if_pos c4] at H
      have c4b0 : decide (x4_1 < (l0.length : Int)) = true := decide_eq_true c4
      clear c4
      by_cases c5 : 0 ≤ x4_1
      ·rw [if_pos c5] at H
       have c5b0 : decide (0 ≤ x4_1) = true := decide_eq_true c5
       clear c5
       obtain ⟨ji6, hji6⟩ : ∃ j_ : Int, (mx x3_1 (rd l0 x4_1)) = j_ := ⟨_, rfl⟩
       replace H : (slices_Max_int_int.l0 k1 l0 ji6 (wrap64 (x4_1 + 1))) = some r := by first | (rw [hji6] at H; exact H) | (simp only [hji6] at H ⊢; exact H)
       have hji6_ : (if x3_1 < (rd l0 x4_1) then (rd l0 x4_1) else x3_1) = ji6 := hji6
       have H' := Aside0.mk H
       clear H
       have p140 : 0 ≤ (x4_1 : Int) := of_decide_eq_true (by first | (with_reducible assumption) | assumption)
       have q140 : x4_1 < (l0.length : Int) := of_decide_eq_true (by first | (with_reducible assumption) | assumption)
       obtain ⟨ad140, e140, hx140_0⟩ := Kd.at_int HR0.out x4_1 p140 q140
       obtain rfl : ad139 = ad140 := (by injection e140)
       replace hx140_0 := (HB.out.cell (World.block_lt_of_cell? w _ hx140_0)).trans hx140_0
       replace p140 := eq_true p140
       replace q140 := eq_true q140
       go_wp2
       go_roundg k1
       case measure => have := HK1.out; omega
       case rel => exact ⟨(ji6), (wrap64 (x4_1 + 1)), (by first | rfl | (simp; done) | (simp only [← hji6] <;> (first | rfl | simp)) | (simp [*]; done)), (by first | rfl | (simp; done) | (simp [*]; done)), H', ⟨by have := HK1.out; omega⟩, ⟨by repeat (first | (with_reducible first | exact HB.out | apply below_alloc | apply pw_below_drewN | apply below_drew1) | exact HB.out)⟩⟩
      ·rw [if_neg c5] at H
       exact absurd H (by simp)
     ·rw [if_neg c4] at H
      have c4b0 : decide (x4_1 < (l0.length : Int)) = false := decide_eq_false c4
      clear c4
      obtain rfl := Option.some.inj H
      go_wp2
      go_ret
      exact ⟨by first | rfl | (simp [errW_none, errW_some] <;> rfl) | (simp [*, errW_none, errW_some] <;> rfl), by repeat (first | (with_reducible first | exact HB.out | apply below_alloc | apply pw_below_drewN | apply below_drew1) | exact HB.out)⟩
  ·rw [if_neg c3] at H
   exact absurd H (by simp)

end Go.Proofs.Ytocnlpnlngnbnaa.P39
