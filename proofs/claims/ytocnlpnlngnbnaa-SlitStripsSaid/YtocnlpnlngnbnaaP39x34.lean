-- Made by wip/tools/gprint.py of this session, a driver over the kit's print program with given functions.
import Derived.Test.YtocnlpnlngnbnaaP39x0
import Derived.Test.YtocnlpnlngnbnaaP39x1
namespace Go.Proofs.Ytocnlpnlngnbnaa.P39
open Go.RowKit Go.Proofs.YtocnlpnlngnbnaaW.PrintWords Go.Proofs.YtocnlpnlngnbnaaW.PrintLast Go.Proofs.YtocnlpnlngnbnaaW.PrintMore
attribute [local go_sem] max2_int min2_int max_two min_two max_three min_three max_four min_four   -- for this text's walks alone
set_option linter.unusedVariables false
set_option linter.unusedSimpArgs false

/-! ### api_Run_45: function 45 -/
/-- A cut whose capacity is its end. -/
theorem cut_mid3 {P : Program} (t e : TypeId) (kl kh : IntKind) {i : TypeInfo} (ht : P.underlying t = some (.slice e)) (hi : P.info? e = some i) (size : Nat) (hsz : i.size = size) (A : Option Addr) (n c : Nat) (lo hi' : Int) (h0 : 0 ≤ lo) (h1 : lo ≤ hi') (h2 : hi' ≤ n) (hc : n ≤ c) (hlt : lo < hi') :
  ∀ W : World, (Instr.slice t (.slice A n c) (some (.int kl lo)) (some (.int kh hi')) (some (.int kh hi'))).run P W = .ok (.slice (if c = lo.toNat then A else A.map (·.add (lo.toNat * size))) (hi'.toNat - lo.toNat) (hi'.toNat - lo.toNat)) W := by
 intro W
 have hel : P.elem t = e := by simp [Program.elem, ht]
 have hu : P.underlying t = some (.slice (P.elem t)) := by rw [hel]; exact ht
 rw [run_slice_lhm W t A n c hu kl kh kh lo hi' hi' h0 h1 (by omega) (by omega), hel]
 simp [sizeOf, typeInfo, hi, hsz, sliced, Result.andThen, show ¬ hi'.toNat = lo.toNat by omega, show ¬ c = lo.toNat by omega]
theorem rep_setCells {t : TypeId} (g : Nat) : ∀ (vs B A C : List Value) (w : World), vs.length = B.length → w.heap[g]? = some (.cells (A ++ B ++ C).toArray t (0, 0)) → (w.setCells g A.length vs).heap[g]? = some (.cells (A ++ vs ++ C).toArray t (0, 0))
 | [], B, A, C, w, hl, h => by
  obtain rfl : B = [] := List.length_eq_zero_iff.1 hl.symm
  simpa [World.setCells] using h
 | v :: vs, [], A, C, w, hl, h => by simp at hl
 | v :: vs, b :: B, A, C, w, hl, h => by
  have h1 := blk_set h A.length v
  have e : ((A ++ b :: B ++ C).toArray.setIfInBounds A.length v) = ((A ++ [v]) ++ B ++ C).toArray := by
   simp [List.setIfInBounds_toArray, List.set_append_right]
  rw [e] at h1
  have := rep_setCells g vs B (A ++ [v]) C (w.setCell ⟨g, A.length, none⟩ v) (by simpa using hl) h1
  simpa [World.setCells] using this
theorem rep_below {base : Nat} {w0 : World} {b : Nat} (hb : base ≤ b) : ∀ (vs : List Value) (o : Nat) (w : World), Below base w0 w → Below base w0 (w.setCells b o vs)
 | [], _, _, h => h
 | _ :: vs, o, _, h => rep_below hb vs (o + 1) _ (h.setCell hb _)
theorem rep_copy_rows {P : Program} (w : World) (dT sT ty elem : TypeId) {i : TypeInfo} (b o dLen dCap : Nat) (a : Addr) (sLen sCap : Nat) (cs : List Value) (n : Nat)
  (hu : P.underlying dT = some (.slice elem)) (hq : P.info? elem = some i) (hn : Nat.min sLen dLen = n) (hl : cs.length = n * i.size)
  (hsrc : ∀ j v, cs[j]? = some v → w.cell? (a.add j) = some v) (hc : ∀ j, j < cs.length → (w.cell? ⟨b, o + j, none⟩).isSome = true) (hf : ∀ j, j < cs.length → w.frozen? ⟨b, o + j, none⟩ = false) (h1 : ∀ v ∈ cs, v.oneCell' = true) :
  (Builtin.copy_ #[dT, sT] ty #[.slice (some ⟨b, o, none⟩) dLen dCap, .slice (some a) sLen sCap]).run P w = .ok (.int .i64 n) (w.setCells b o cs) := by
 have hl1 := run_loadCells_list (P := P) w a cs hsrc
 have hst := run_storeCells_cells (P := P) b o cs 0 w (by simpa using hc) (by simpa using hf) h1
 have hn' : min sLen dLen = n := hn
 rw [hl] at hl1
 simp [Builtin.copy_, run_underlying hu, Builtin.lenOf, Builtin.firstCells, sizeOf, typeInfo, hq, hn', hl1, hst, goInt]
 done
def rep_rows (cs zs : List Value) (m k : Nat) : List Value := (List.replicate m cs).flatten ++ (List.replicate k zs).flatten
theorem rep_flat (cs : List Value) (m : Nat) : ((List.replicate m cs).flatten).length = m * cs.length := by simp
/-- The block of the new row: m copies lie in it, N - m zeros. -/
structure Rep (w0 : World) (g N : Nat) (cs zs : List Value) (e : TypeId) (m : Nat) (w : World) : Prop where
 below : Below w0.heap.size w0 w
 old : w0.heap.size ≤ g
 le : m ≤ N
 blk : w.heap[g]? = some (.cells (rep_rows cs zs m (N - m)).toArray e (0, 0))
theorem Rep.put {w0 : World} {g N : Nat} {cs zs : List Value} {e m : Nat} {w : World} (h : Rep w0 g N cs zs e m w) (q : Nat) (hq : m + q ≤ N) (hz : cs.length = zs.length) : Rep w0 g N cs zs e (m + q) (w.setCells g (m * cs.length) ((List.replicate q cs).flatten)) := by
 refine ⟨rep_below h.old _ _ _ h.below, h.old, hq, ?_⟩
 have hb := h.blk
 unfold rep_rows at hb ⊢
 rw [show N - m = q + (N - (m + q)) by omega, ← List.replicate_append_replicate, List.flatten_append, ← List.append_assoc] at hb
 have := rep_setCells g ((List.replicate q cs).flatten) ((List.replicate q zs).flatten) ((List.replicate m cs).flatten) ((List.replicate (N - (m + q)) zs).flatten) w (by rw [rep_flat, rep_flat, hz]) hb
 rw [rep_flat] at this
 rw [this, ← List.replicate_append_replicate (n := m), List.flatten_append]
theorem Rep.len {w0 : World} {g N : Nat} {cs zs : List Value} {e m : Nat} {w : World} (h : Rep w0 g N cs zs e m w) (hz : cs.length = zs.length) : (rep_rows cs zs m (N - m)).length = N * cs.length := by
 unfold rep_rows
 rw [List.length_append, rep_flat, rep_flat, ← hz, ← Nat.add_mul, Nat.add_sub_of_le h.le]
theorem Rep.cell {w0 : World} {g N : Nat} {cs zs : List Value} {e m : Nat} {w : World} (h : Rep w0 g N cs zs e m w) (j : Nat) : w.cell? ⟨g, j, none⟩ = (rep_rows cs zs m (N - m))[j]? := by
 rw [blk_cell h.blk j]
 simp
theorem Rep.src {w0 : World} {g N : Nat} {cs zs : List Value} {e m : Nat} {w : World} (h : Rep w0 g N cs zs e m w) (q : Nat) (hq : q ≤ m) (j : Nat) (v : Value) (hj : ((List.replicate q cs).flatten)[j]? = some v) : w.cell? ((⟨g, 0, none⟩ : Addr).add j) = some v := by
 have hlt := (List.getElem?_eq_some_iff.1 hj).1
 rw [show (⟨g, 0, none⟩ : Addr).add j = ⟨g, j, none⟩ from by rw [add_plain], h.cell]
 unfold rep_rows
 rw [show List.replicate m cs = List.replicate q cs ++ List.replicate (m - q) cs by rw [List.replicate_append_replicate, Nat.add_sub_of_le hq], List.flatten_append, List.append_assoc, List.getElem?_append_left hlt]
 exact hj
/-- The copy inside the row. -/
theorem Rep.copy {P : Program} {w0 : World} {g N : Nat} {cs zs : List Value} {e m : Nat} {w : World} (h : Rep w0 g N cs zs e m w) (t ty : TypeId) {i : TypeInfo} (hu : P.underlying t = some (.slice e)) (hi : P.info? e = some i) (hs : i.size = cs.length) (hz : cs.length = zs.length) (h1 : ∀ v ∈ cs, v.oneCell' = true) :
  (Builtin.copy_ #[t, t] ty #[.slice (some ⟨g, m * cs.length, none⟩) (N - m) (N - m), .slice (some ⟨g, 0, none⟩) m N]).run P w = .ok (.int .i64 (min m (N - m) : Nat)) (w.setCells g (m * cs.length) ((List.replicate (min m (N - m)) cs).flatten)) := by
 have hle := h.le
 have hq : m + min m (N - m) ≤ N := by omega
 have hlen := h.len hz
 have hmul : m * cs.length + min m (N - m) * cs.length ≤ N * cs.length := by rw [← Nat.add_mul]; exact Nat.mul_le_mul_right _ hq
 refine rep_copy_rows w t t ty e (i := i) g (m * cs.length) (N - m) (N - m) ⟨g, 0, none⟩ m N _ _ hu hi rfl (by rw [rep_flat, hs]) (fun j v hj => h.src _ (by omega) j v hj) (fun j hj => ?_) (fun j hj => blk_frozen h.blk _) (fun v hv => ?_)
 ·rw [rep_flat] at hj
  rw [h.cell, List.getElem?_eq_getElem (by rw [hlen]; omega)]
  rfl
 ·obtain ⟨x, hx, hv⟩ := List.mem_flatten.1 hv
  rw [(List.mem_replicate.1 hx).2] at hv
  exact h1 v hv
/-- The first copy, out of a row of one element. -/
theorem Rep.first {P : Program} {w0 : World} {g N : Nat} {cs zs : List Value} {e : Nat} {w : World} (h : Rep w0 g N cs zs e 0 w) (t ty : TypeId) {i : TypeInfo} (hu : P.underlying t = some (.slice e)) (hi : P.info? e = some i) (hs : i.size = cs.length) (hz : cs.length = zs.length) (h1 : ∀ v ∈ cs, v.oneCell' = true) (ad : Addr) (c : Nat) (hsrc : ∀ j v, cs[j]? = some v → w.cell? (ad.add j) = some v) :
  (Builtin.copy_ #[t, t] ty #[.slice (some ⟨g, 0, none⟩) N N, .slice (some ad) 1 c]).run P w = .ok (.int .i64 (min 1 N : Nat)) (w.setCells g 0 ((List.replicate (min 1 N) cs).flatten)) := by
 have hlen := h.len hz
 have hmul : min 1 N * cs.length ≤ N * cs.length := Nat.mul_le_mul_right _ (by omega)
 refine rep_copy_rows w t t ty e (i := i) g 0 N N ad 1 c _ _ hu hi rfl (by rw [rep_flat, hs]) (fun j v hj => ?_) (fun j hj => ?_) (fun j hj => blk_frozen h.blk _) (fun v hv => ?_)
 ·rcases Nat.eq_zero_or_pos N with h0 | h0
  ·rw [h0] at hj
   simp at hj
  ·rw [show min 1 N = 1 by omega] at hj
   simp at hj
   exact hsrc j v hj
 ·rw [rep_flat] at hj
  rw [Nat.zero_add, h.cell, List.getElem?_eq_getElem (by rw [hlen]; omega)]
  rfl
 ·obtain ⟨x, hx, hv⟩ := List.mem_flatten.1 hv
  rw [(List.mem_replicate.1 hx).2] at hv
  exact h1 v hv
theorem rep_mul (n : Int) (h0 : 0 ≤ n) (h1 : n ≤ 100) : bits_Mul.f 1 n = some (0, n) := by
 obtain ⟨m, rfl⟩ := Int.eq_ofNat_of_zero_le h0
 have h : ∀ m : Nat, m < 101 → bits_Mul.f 1 (m : Int) = some (0, (m : Int)) := by decide +kernel
 exact h m (by omega)
theorem rep_zeros (m : Nat) : madeCells (.agg #[(.int .i64 0), (.int .i64 0), (.bool false)] : Value).cells (m * 3) = ((List.replicate m [(.int .i64 0 : Value), .int .i64 0, .bool false]).flatten).toArray := by
 have hz : (.agg #[(.int .i64 0), (.int .i64 0), (.bool false)] : Value).cells = #[.int .i64 0, .int .i64 0, .bool false] := by simp [Value.cells]
 rw [hz]
 induction m with
 | zero => simp [madeCells]
 | succ m ih =>
  rw [List.replicate_succ', List.flatten_append]
  have e : madeCells #[(.int .i64 0 : Value), .int .i64 0, .bool false] ((m + 1) * 3) = madeCells #[(.int .i64 0 : Value), .int .i64 0, .bool false] (m * 3) ++ #[.int .i64 0, .int .i64 0, .bool false] := by
   rw [show (m + 1) * 3 = m * 3 + 1 + 1 + 1 by omega]
   unfold madeCells
   rw [Array.range_succ, Array.range_succ, Array.range_succ, Array.map_append, Array.map_append, Array.map_append]
   simp [show (m * 3 + 1) % 3 = 1 by omega, show (m * 3 + 1 + 1) % 3 = 2 by omega, show (m * 3 + 2) % 3 = 2 by omega]
   rfl
  rw [e, ih]
  simp
section
variable {P : Program} {ops : Array Oper} {rest : List Oper} {o : Oper} {a : Act} {Q : Exit → Act → World → Prop} {Kc : Act → World → Prop}
theorem rep_copy_run {W w1 : World} (hgd : o.guard = none) (d s : Operand) (t : TypeId) (n : Nat) (x y : Value) (ho : o.op = .call { callee := .builtin .copy, args := #[d, s], argTypes := #[t, t] }) (hd : a.eval d = x) (hs : a.eval s = y) (hrun : (Builtin.copy_ #[t, t] o.type #[x, y]).run P W = .ok (.int .i64 n) w1) (h : wpList P ops Q rest (a.put o.dst (.int .i64 n)) w1) : wpList P ops Q (o :: rest) a W := by
 refine wpList_plain hgd fun K hK => ?_
 unfold Oper.wp execOp
 simp only [ho, resolve, invoke, builtin, Sem.run_bind, Sem.run_pure, Result.andThen_ok, List.map_toArray, List.map_cons, List.map_nil, hd, hs, hrun]
 exact hK _ _ h
theorem gate_step_copy {W : World} {xs : Array Operand} {ts : Array TypeId} (_ho : o.op = .call { callee := .builtin .copy, args := xs, argTypes := ts }) (h : if Region.wanted o (yielded ops a.tmps) = true then Oper.wp P o a W Kc Q else Kc (a.put o.dst undef) W) : if Region.wanted o (yielded ops a.tmps) = true then Oper.wp P o a W Kc Q else Kc (a.put o.dst undef) W := h
theorem rep_copy_step {W w1 : World} (hw : Region.wanted o (yielded ops a.tmps) = true) (d s : Operand) (t : TypeId) (n : Nat) (x y : Value) (ho : o.op = .call { callee := .builtin .copy, args := #[d, s], argTypes := #[t, t] }) (hd : a.eval d = x) (hs : a.eval s = y) (hrun : (Builtin.copy_ #[t, t] o.type #[x, y]).run P W = .ok (.int .i64 n) w1) (h : Kc (a.put o.dst (.int .i64 n)) w1) : if Region.wanted o (yielded ops a.tmps) = true then Oper.wp P o a W Kc Q else Kc (a.put o.dst undef) W := by
 rw [if_pos hw]
 unfold Oper.wp execOp
 simp only [ho, resolve, invoke, builtin, Sem.run_bind, Sem.run_pure, Result.andThen_ok, List.map_toArray, List.map_cons, List.map_nil, hd, hs, hrun]
 exact h
end
theorem rep_first_run {P : Program} {ops : Array Oper} {rest : List Oper} {o : Oper} {a : Act} {Q : Exit → Act → World → Prop} {w0 : World} {g N : Nat} {cs zs : List Value} {e : Nat} {w : World} (h : Rep w0 g N cs zs e 0 w) (hgd : o.guard = none) (d s : Operand) (t : TypeId) {i : TypeInfo} (hu : P.underlying t = some (.slice e)) (hi : P.info? e = some i) (hs : i.size = cs.length) (hz : cs.length = zs.length) (h1 : ∀ v ∈ cs, v.oneCell' = true) (ad : Addr) (c : Nat) (hsrc : ∀ j v, cs[j]? = some v → w.cell? (ad.add j) = some v)
  (ho : o.op = .call { callee := .builtin .copy, args := #[d, s], argTypes := #[t, t] }) (hd : a.eval d = .slice (some ⟨g, 0, none⟩) N N) (hs' : a.eval s = .slice (some ad) 1 c)
  (hk : ∀ W1, Rep w0 g N cs zs e (min 1 N) W1 → wpList P ops Q rest (a.put o.dst (.int .i64 (min 1 N : Nat))) W1) : wpList P ops Q (o :: rest) a w := by
 refine rep_copy_run hgd d s t _ _ _ ho hd hs' (h.first t o.type hu hi hs hz h1 ad c hsrc) (hk _ ?_)
 have := h.put (min 1 N) (by omega) hz
 rwa [Nat.zero_add, Nat.zero_mul] at this
theorem rep_next_step {P : Program} {ops : Array Oper} {o : Oper} {a : Act} {Q : Exit → Act → World → Prop} {Kc : Act → World → Prop} {w0 : World} {g N : Nat} {cs zs : List Value} {e m : Nat} {w : World} (h : Rep w0 g N cs zs e m w) (hw : Region.wanted o (yielded ops a.tmps) = true) (d s : Operand) (t : TypeId) {i : TypeInfo} (hu : P.underlying t = some (.slice e)) (hi : P.info? e = some i) (hs : i.size = cs.length) (hz : cs.length = zs.length) (h1 : ∀ v ∈ cs, v.oneCell' = true)
  (ho : o.op = .call { callee := .builtin .copy, args := #[d, s], argTypes := #[t, t] }) (hd : a.eval d = .slice (some ⟨g, m * cs.length, none⟩) (N - m) (N - m)) (hs' : a.eval s = .slice (some ⟨g, 0, none⟩) m N)
  (q : Nat) (hq : q = min m (N - m)) (hk : ∀ W1, Rep w0 g N cs zs e (m + q) W1 → Kc (a.put o.dst (.int .i64 (q : Int))) W1) : if Region.wanted o (yielded ops a.tmps) = true then Oper.wp P o a w Kc Q else Kc (a.put o.dst undef) w :=
 rep_copy_step hw d s t _ _ _ ho hd hs' (by rw [hq]; exact h.copy t o.type hu hi hs hz h1) (hk _ (by rw [hq]; exact h.put _ (by have := h.le; omega) hz))
theorem Rep.on {w0 : World} {g N : Nat} {cs zs : List Value} {e m : Nat} {w w1 : World} (h : Rep w0 g N cs zs e m w) (hb : Below w.heap.size w w1) : Rep w0 g N cs zs e m w1 := ⟨h.below.trans (hb.mono h.below.size), h.old, h.le, blk_below h.blk hb⟩
def rep_x (x : S69) : List Value := [.int .i64 x.f0, .int .i64 x.f1, .bool x.f2]
def rep_z : List Value := [.int .i64 0, .int .i64 0, .bool false]
theorem rep_x_one (x : S69) : ∀ v ∈ rep_x x, v.oneCell' = true := by
 intro v hv
 simp only [rep_x, List.mem_cons, List.not_mem_nil, or_false] at hv
 rcases hv with rfl | rfl | rfl <;> rfl
def rep_Rel (w0 : World) (g N : Nat) (x : S69) (gk : Nat) (i : Value) (wr : World) : Prop :=
 ∃ m : Nat, i = .int .i64 (m : Int) ∧ m + gk = N ∧ (0 < m ∨ N = 0) ∧ Rep w0 g N (rep_x x) rep_z 69 m wr
def api_Run_45.f (l0 : List (S69)) (a1 : Int) : Option (List (S69)) := if l0.length = 1 ∧ 0 ≤ a1 ∧ a1 ≤ 100 then some (List.replicate a1.toNat (rd_T69 l0 0)) else none
set_option maxHeartbeats 4000000 in
set_option maxRecDepth 100000 in
theorem api_Run_45.calls (A0 : Option Addr) (c0 : Nat) (l0 : List (S69)) (a1 : Int) (r : List (S69)) (w : World) (hr0 : Kd.C k69 w A0 l0.length l0) (hc0 : l0.length ≤ c0) (h : api_Run_45.f l0 a1 = some r) :
  Calls Try.prog 45 #[.slice A0 l0.length c0, .int .i64 a1] w fun e w' => ∃ v0_ : Value, e = .returned (v0_) ∧ Kd.R k69 69 w' w.heap.size (fun _ => True) v0_ r ∧ Below w.heap.size w w' := by
 unfold api_Run_45.f at h
 split at h
 ·rename_i hp
  obtain ⟨h1, h2, h3⟩ := hp
  obtain rfl := Option.some.inj h
  clear h
  obtain ⟨N, rfl⟩ := Int.eq_ofNat_of_zero_le h2
  obtain ⟨ad, rfl, _, _, _⟩ := at_T69 hr0 0 (by omega) (by omega)
  have HS := Aside0.mk (show ∀ W : World, Below w.heap.size w W → ∀ j v, (rep_x (rd_T69 l0 0))[j]? = some v → W.cell? (ad.add j) = some v from fun W hb j v hj => by
   obtain ⟨ad2, c, e2, _, hK, hc⟩ := Kd.C_get (Kd.C_below hr0 hb) z69 0 (by omega) (by omega)
   cases e2
   obtain rfl := k69_open hK
   have := hc j v hj
   simpa using this)
  obtain ⟨x, hx⟩ : ∃ x, x = rd_T69 l0 0 := ⟨_, rfl⟩
  rw [← hx] at HS ⊢
  rw [h1] at hc0 ⊢
  clear hr0 hx h1 h2
  obtain ⟨i0, hi, hz0, hz1, hz2⟩ := info_parts info69
  have HMUL := Aside0.mk (rep_mul (N : Int) (by omega) h3)
  have hmk : ∀ W : World, (Instr.makeSlice 45 (.int .i64 (N : Int)) (.int .i64 (N : Int))).run Try.prog W = .ok (.slice (some ⟨W.heap.size, 0, none⟩) N N) (W.alloc (.cells (rep_rows (rep_x x) rep_z 0 N).toArray 69)) := fun W => by
   have := run_make (P := Try.prog) (w := W) 45 69 i0 _ Try.underlying45 hi hz0 .i64 .i64 N N (by omega) (Int.le_refl _) (by rw [hz2]; omega) (by omega)
   rw [hz1, Int.toNat_natCast, rep_zeros] at this
   rw [this]
   simp [rep_rows, rep_z]
  have HIS := Aside0.mk hi
  have HZ1 := Aside0.mk hz1
  clear hi hz0 hz1 hz2
  go_enter Try.func45, Try.ntmps45
  go_wp2_with (first
   | (go_at_call 61; refine (bits_Mul.calls _ _ _ _ _ HMUL.out).mono ?_; rintro e w1 ⟨rfl, hd⟩; have HB := Aside0.mk (show Below w.heap.size w w1 from hd.below); clear hd)
   | ((with_reducible refine gate_builtin (b := .copy) (xs := #[.tmp 31, .tmp 32]) rfl ?_); refine rep_first_run (w0 := w) (g := w1.heap.size) (N := N) (cs := rep_x x) (zs := rep_z) (e := 69) ⟨below_alloc HB.out _, HB.out.size, Nat.zero_le _, blk_new _ _⟩ rfl (.tmp 31) (.tmp 32) 45 Try.underlying45 HIS.out HZ1.out rfl (rep_x_one x) ad c0 (HS.out _ (below_alloc HB.out _)) rfl rfl rfl ?_; intro W1 hR; have HR := Aside0.mk hR; clear hR))
  obtain ⟨g, hg⟩ : ∃ g, g = w1.heap.size := ⟨_, rfl⟩
  rw [← hg] at HR ⊢
  clear hg HB
  have hc1 : ∀ (m : Nat) (W : World), m < N → (Instr.slice 45 (.slice (some ⟨g, 0, none⟩) N N) (some (.int .i64 (m : Int))) none none).run Try.prog W = .ok (.slice (some ⟨g, m * (rep_x x).length, none⟩) (N - m) (N - m)) W := fun m W hm => by
   have := cut_from (P := Try.prog) 45 69 .i64 Try.underlying45 HIS.out 3 HZ1.out (some ⟨g, 0, none⟩) N N m (by omega) (by omega) W
   rw [Int.toNat_natCast, if_neg (by omega)] at this
   rw [this]
   simp [rep_x, add_plain]
  have hc2 : ∀ (m : Nat) (W : World), m ≤ N → (Instr.slice 45 (.slice (some ⟨g, 0, none⟩) N N) none (some (.int .i64 (m : Int))) none).run Try.prog W = .ok (.slice (some ⟨g, 0, none⟩) m N) W := fun m W hm => by
   have := cut_to (P := Try.prog) 45 69 .i64 Try.underlying45 HIS.out (some ⟨g, 0, none⟩) N N m (by omega) (by omega) (Nat.le_refl _) W
   rw [Int.toNat_natCast] at this
   rw [this]
  have HC1 := Aside0.mk hc1
  have HC2 := Aside0.mk hc2
  clear hc1 hc2 hmk
  go_wp2_with fail
  go_loopg [8] (N - min 1 N) (fun gk i wr => rep_Rel w g N x gk i wr)
  case atStart => exact ⟨min 1 N, rfl, by omega, by omega, HR.out⟩
  case round =>
   obtain ⟨m, hi, hm, hpos, hr⟩ := hrel
   subst hi
   have HRr := Aside0.mk hr
   clear hr HR
   by_cases hlt : m < N
   ·have hcA : ∀ W : World, (Instr.slice 45 (.slice (some ⟨g, 0, none⟩) N N) (some (.int .i64 (m : Int))) none none).run Try.prog W = .ok (.slice (some ⟨g, m * (rep_x x).length, none⟩) (N - m) (N - m)) W := fun W => HC1.out m W hlt
    have hcB : ∀ W : World, (Instr.slice 45 (.slice (some ⟨g, 0, none⟩) N N) none (some (.int .i64 (m : Int))) none).run Try.prog W = .ok (.slice (some ⟨g, 0, none⟩) m N) W := fun W => HC2.out m W (by omega)
    go_wp2_with fail
    obtain ⟨q, hq⟩ : ∃ q, q = min m (N - m) := ⟨_, rfl⟩
    have hq0 : 0 < q := by omega
    have hq1 : m + q ≤ N := by omega
    have HRd := Aside0.mk (HRr.out.on (below_drew (Below.refl _ _)))
    refine start_ (n := 10) (S := fun _ => True) (ds := []) #[false, false, false, false, false, false, false, false, false, false] (by kernel_rfl) rfl rfl trivial (fun hHeld => ?_)
    refine with_tab (T := rtab .any (opsOf Try.f45 9)) (by kernel_rfl) (fun HT_ => ?_)
    generalize wr.drew = wd at HRd hHeld ⊢
    refine pure_ (i := 0) (N := some 38) (v := ?_) (a' := ?_) #[true, false, false, false, false, false, false, false, false, false] rfl rfl (any_of HT_.out (by kernel_rfl)) (fun _ _ _ h => h) (Or.inl ⟨by rfl, ?_⟩) ?_ ?_
    rotate_left
    ·intro w'
     go_simp
     with_reducible rfl
    rotate_left
    ·simp only [Act.put, List.setIfInBounds_toArray, List.set_cons_zero, List.set_cons_succ, i64_w, i32_w]
     rfl
    refine pure_ (i := 1) (N := some 39) (v := ?_) (a' := ?_) #[true, true, false, false, false, false, false, false, false, false] rfl rfl (any_of HT_.out (by kernel_rfl)) (fun _ _ _ h => h) (Or.inl ⟨by rfl, ?_⟩) ?_ ?_
    rotate_left
    ·intro w'
     go_simp
     with_reducible rfl
    rotate_left
    ·simp only [Act.put, List.setIfInBounds_toArray, List.set_cons_zero, List.set_cons_succ, i64_w, i32_w]
     rfl
    refine pure_ (i := 2) (N := some 40) (v := ?_) (a' := ?_) #[true, true, true, false, false, false, false, false, false, false] rfl rfl (any_of HT_.out (by kernel_rfl)) (fun _ _ _ h => h) (Or.inl ⟨by rfl, ?_⟩) ?_ ?_
    rotate_left
    ·intro w'
     go_simp
     with_reducible rfl
    rotate_left
    ·simp only [Act.put, List.setIfInBounds_toArray, List.set_cons_zero, List.set_cons_succ, i64_w, i32_w]
     rfl
    refine pure_ (i := 3) (N := some 41) (v := ?_) (a' := ?_) #[true, true, true, true, false, false, false, false, false, false] rfl rfl (any_of HT_.out (by kernel_rfl)) (fun _ _ _ h => h) (Or.inl ⟨by rfl, ?_⟩) ?_ ?_
    rotate_left
    ·intro w'
     go_simp
     with_reducible rfl
    rotate_left
    ·simp only [Act.put, List.setIfInBounds_toArray, List.set_cons_zero, List.set_cons_succ, i64_w, i32_w]
     rfl
    refine pure_ (i := 4) (N := some 42) (v := ?_) (a' := ?_) #[true, true, true, true, true, false, false, false, false, false] rfl rfl (any_of HT_.out (by kernel_rfl)) (fun _ _ _ h => h) (Or.inl ⟨by rfl, ?_⟩) ?_ ?_
    rotate_left
    ·intro w'
     go_simp
     with_reducible rfl
    rotate_left
    ·simp only [Act.put, List.setIfInBounds_toArray, List.set_cons_zero, List.set_cons_succ, i64_w, i32_w]
     rfl
    refine pure_ (i := 5) (N := some 43) (v := ?_) (a' := ?_) #[true, true, true, true, true, true, false, false, false, false] rfl rfl (any_of HT_.out (by kernel_rfl)) (fun _ _ _ h => h) (Or.inl ⟨by rfl, ?_⟩) ?_ ?_
    rotate_left
    ·intro w'
     go_simp
     with_reducible rfl
    rotate_left
    ·simp only [Act.put, List.setIfInBounds_toArray, List.set_cons_zero, List.set_cons_succ, i64_w, i32_w]
     rfl
    refine pure_ (i := 6) (N := some 44) (v := ?_) (a' := ?_) #[true, true, true, true, true, true, true, false, false, false] rfl rfl (any_of HT_.out (by kernel_rfl)) (fun _ _ _ h => h) (Or.inl ⟨by rfl, ?_⟩) ?_ ?_
    rotate_left
    ·intro w'
     go_simp
     with_reducible rfl
    rotate_left
    ·simp only [Act.put, List.setIfInBounds_toArray, List.set_cons_zero, List.set_cons_succ, i64_w, i32_w]
     rfl
    refine one_ (i := 7) (N := some 45) #[true, true, true, true, true, true, true, true, false, false] rfl rfl (one_of HT_.out (by kernel_rfl)) (by decide) (fun K hK => ?_)
    refine rep_next_step (w0 := w) (g := g) (N := N) (m := m) (cs := rep_x x) (zs := rep_z) (e := 69) HRd.out (by rfl) (.tmp 41) (.tmp 44) 45 Try.underlying45 HIS.out HZ1.out rfl (rep_x_one x) rfl rfl rfl q hq ?_
    intro W1 hR
    have HR2 := Aside0.mk hR
    clear hR
    refine hK.out _ _ trivial (fun hHeld => ?_)
    clear hK K
    refine norm_ (a' := ?_) ?_ ?_
    rotate_left
    ·show Act.put _ (some 45) _ = _
     simp only [Act.put, List.setIfInBounds_toArray, List.set_cons_zero, List.set_cons_succ, i64_w, i32_w]
     rfl
    refine pure_ (i := 8) (N := some 46) (v := ?_) (a' := ?_) #[true, true, true, true, true, true, true, true, true, false] rfl rfl (any_of HT_.out (by kernel_rfl)) (fun _ _ _ h => h) (Or.inl ⟨by rfl, ?_⟩) ?_ ?_
    rotate_left
    ·intro w'
     go_simp
     with_reducible rfl
    rotate_left
    ·simp only [Act.put, List.setIfInBounds_toArray, List.set_cons_zero, List.set_cons_succ, i64_w, i32_w]
     rfl
    refine pure_ (i := 9) (N := some 8) (v := ?_) (a' := ?_) #[true, true, true, true, true, true, true, true, true, true] rfl rfl (any_of HT_.out (by kernel_rfl)) (fun _ _ _ h => h) (Or.inl ⟨by rfl, ?_⟩) ?_ ?_
    rotate_left
    ·intro w'
     go_simp
     with_reducible rfl
    rotate_left
    ·simp only [Act.put, List.setIfInBounds_toArray, List.set_cons_zero, List.set_cons_succ, i64_w, i32_w]
     rfl
    refine done_ (done_of HT_.out (by kernel_rfl)) ?_
    try go_wp2
    go_roundg (N - (m + q))
    case measure => omega
    case rel => exact ⟨m + q, (by first | go_num | (congr 1; unfold wrap64; omega)), by omega, by omega, HR2.out⟩
   ·go_wp2_with fail
    go_ret
    have e : m = N := by omega
    subst e
    have hF : (rep_rows (rep_x x) rep_z m (m - m)) = (List.replicate m (rep_x x)).flatten := by
     unfold rep_rows
     rw [Nat.sub_self]
     simp
    refine ⟨_, rfl, (?_ : Kd.R k69 69 _ w.heap.size (fun _ => True) (.slice (some ⟨g, 0, none⟩) m m) (List.replicate ((m : Int).toNat) x)), HRr.out.below⟩
    rw [Int.toNat_natCast]
    refine ⟨fun _ _ => trivial, (List.replicate m (rep_x x)).flatten, ⟨?_, .inr ⟨g, m, (rep_rows (rep_x x) rep_z m (m - m)).toArray, ?_, HRr.out.old, HRr.out.blk, ?_, ?_, ?_, ?_⟩⟩, ?_, ?_⟩
    ·rw [rep_flat, List.length_replicate]
     rfl
    ·rw [List.length_replicate]
    ·rw [List.length_replicate]
     exact Nat.le_refl _
    ·simp only [maxLen]
     omega
    ·rw [hF, List.size_toArray, rep_flat]
     rfl
    ·rw [hF, List.length_replicate]
     exact List.take_of_length_le (by rw [rep_flat]; exact Nat.le_refl _)
    ·rw [rep_flat, List.length_replicate]
     rfl
    ·intro j p hj
     obtain ⟨hjl, hp⟩ := List.getElem?_eq_some_iff.1 hj
     have hjm : j < m := by simpa using hjl
     have hp' : x = p := by simpa using hp
     subst hp'
     have e2 : List.replicate m (rep_x x) = List.replicate j (rep_x x) ++ (rep_x x :: List.replicate (m - j - 1) (rep_x x)) := by
      rw [← List.replicate_succ, List.replicate_append_replicate]
      congr 1
      omega
     have e3 : ((List.replicate m (rep_x x)).flatten.drop (j * k69.sz)).take k69.sz = rep_x x := by
      rw [e2, List.flatten_append, List.drop_left' (by rw [rep_flat]; rfl), List.flatten_cons]
      exact List.take_left' rfl
     rw [e3]
     exact k69_mkM _ _ _ x
 ·cases h

end Go.Proofs.Ytocnlpnlngnbnaa.P39
