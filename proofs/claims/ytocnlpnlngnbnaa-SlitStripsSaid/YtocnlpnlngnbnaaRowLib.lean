/- What a law's arguments read as: from the form's reading (DataW.trod) to the print's kinds (Kd), type by type: whole numbers, bools, strings, slices, structs, arrays. -/
import Derived.Test.YtocnlpnlngnbnaaWSized
import Derived.Test.YtocnlpnlngnbnaaWMore
import Derived.Deep.Slices
import Derived.WideShapes
import Derived.OpenShut
namespace Go.Proofs.Ytocnlpnlngnbnaa.RowLib
open Go.RowKit Go.Proofs.YtocnlpnlngnbnaaW.PrintWords Go.Proofs.YtocnlpnlngnbnaaW.PrintLast Go.Proofs.YtocnlpnlngnbnaaW.PrintMore
set_option linter.unusedVariables false

/-- A number of int's range. -/
def I64 (x : Int) : Prop := -9223372036854775808 ≤ x ∧ x ≤ 9223372036854775807
theorem i64_of {x : Int} (h : (Lit.int .i64 x).wf = true) : I64 x := by
  exact bounds_i64 h

/-- What is read at type t is of kind d, and ok. -/
structure Rdg {α : Type} (P : Program) (t : TypeId) (d : Kd α) (ok : α → Prop) : Prop where
  out : ∀ {H : Type} (enc : TypeId × Value → H) (w : World) (fuel : Nat) (cs : List Value) (x : DataW H × List MemPlace), DataW.trod enc P w 0 (fun _ => true) true fuel t cs = some x → ∃ a, d.K w a cs ∧ ok a
variable {P : Program} {t e : TypeId} {α β : Type} {d : Kd α} {b : Kd β} {ok : α → Prop} {okb : β → Prop}
theorem Rdg.int {k : IntKind} (ht : P.underlying t = some (.int k)) : Rdg P t (Kd.int k) (fun n => (Lit.int k n).wf = true) := by
  constructor
  intro H enc w fuel cs x h
  obtain ⟨n, rfl, _, hw⟩ := DataW.trod_int ht h
  exact ⟨n, rfl, hw⟩
theorem Rdg.mono {ok' : α → Prop} (h : Rdg P t d ok) (hi : ∀ a, ok a → ok' a) : Rdg P t d ok' := by
  constructor
  intro H enc w fuel cs x hx
  obtain ⟨a, h1, h2⟩ := h.out enc w fuel cs x hx
  exact ⟨a, h1, hi a h2⟩
theorem Rdg.i64 (ht : P.underlying t = some (.int .i64)) : Rdg P t (Kd.int .i64) I64 := Rdg.mono (Rdg.int ht) fun _ h => i64_of h
theorem Rdg.bool (ht : P.underlying t = some .bool) : Rdg P t Kd.bool (fun _ => True) := by
  constructor
  intro H enc w fuel cs x h
  obtain ⟨n, rfl, _⟩ := DataW.trod_bool ht h
  exact ⟨n, rfl, trivial⟩
theorem Rdg.string (ht : P.underlying t = some .string) : Rdg P t Kd.string (fun s => s.size ≤ maxLen) := by
  constructor
  intro H enc w fuel cs x h
  obtain ⟨n, rfl, _, hs⟩ := DataW.trod_string ht h
  exact ⟨n, rfl, hs⟩
theorem cells_of {w : World} {base : Nat} {a : Addr} : ∀ {n : Nat} {cs : List Value}, w.cells? base a n = some cs → cs.length = n ∧ ∀ i u, cs[i]? = some u → w.cell? (a.add i) = some u := by
  intro n cs h
  obtain ⟨_, h1, h2⟩ := World.cells?_some h
  exact ⟨h1, fun i u hu => by
    have hi := (List.getElem?_eq_some_iff.1 hu).1
    rw [h2 i (by omega)]
    exact hu⟩
theorem Rdg.slice (ht : P.underlying t = some (.slice e)) (hc : P.cellsOf e = d.sz) (h : Rdg P e d ok) : Rdg P t (Kd.slice e d) (fun l => l.length ≤ 9223372036854775807 ∧ ∀ y ∈ l, ok y) := by
  constructor
  intro H enc w fuel cs x hx
  rcases Deep.open_slice ht hx with ⟨rfl, _⟩ | ⟨a, len, cap, m, n, D, Pl, rfl, _, hl, hm, hmm, hxx, hel⟩
  · exact ⟨[], ⟨none, 0, rfl, Nat.le_refl _, rfl, by simp, fun h => absurd h (by simp)⟩, by simp, fun y hy => by cases hy⟩
  · have hlen : len ≤ m := by rw [hmm]; simp; omega
    have key : ∀ i : Nat, i < len → ∃ y : α, (∃ c, c.length = d.sz ∧ d.K w y c ∧ ∀ j u, c[j]? = some u → w.cell? (a.add (i * d.sz + j)) = some u) ∧ ok y := fun i hi => by
      obtain ⟨cs', hcs, htr⟩ := hel i (by omega)
      obtain ⟨y, hK, hok⟩ := h.out enc w n cs' _ htr
      rw [hc] at hcs
      obtain ⟨hcl, hcc⟩ := cells_of hcs
      refine ⟨y, ⟨cs', hcl, hK, fun j u hu => ?_⟩, hok⟩
      rw [← Deep.add_add]
      exact hcc j u hu
    have hf : ∃ l : List α, l.length = len ∧ ∀ i y, l[i]? = some y → (∃ c, c.length = d.sz ∧ d.K w y c ∧ ∀ j u, c[j]? = some u → w.cell? (a.add (i * d.sz + j)) = some u) ∧ ok y := by
      clear hl hm hmm hlen hel hxx hx
      induction len with
      | zero => exact ⟨[], rfl, fun i y h => by simp at h⟩
      | succ len ih =>
        obtain ⟨l, hl, hp⟩ := ih (fun i hi => key i (by omega))
        obtain ⟨y, hy⟩ := key len (by omega)
        refine ⟨l ++ [y], by simp [hl], fun i z hz => ?_⟩
        rcases Nat.lt_or_ge i l.length with hi | hi
        · rw [List.getElem?_append_left hi] at hz
          exact hp i z hz
        · have hi2 : i = len := by
            have := (List.getElem?_eq_some_iff.1 hz).1
            simp at this
            omega
          subst hi2
          rw [List.getElem?_append_right hi, hl, Nat.sub_self] at hz
          simp at hz
          subst hz
          exact hy
    obtain ⟨l, hll, hp⟩ := hf
    have hmx : len ≤ 9223372036854775807 := by simp [maxLen] at hm; omega
    refine ⟨l, ⟨some a, cap, by rw [hll], by omega, rfl, by omega, fun _ => ⟨a, rfl, fun j p hj => (hp j p hj).1⟩⟩, by omega, fun y hy => ?_⟩
    obtain ⟨i, hi, rfl⟩ := List.getElem_of_mem hy
    exact (hp i _ (List.getElem?_eq_getElem hi)).2
/-- Short arrays: as so many fields. -/
theorem Rdg.array2 (ht : P.underlying t = some (.array 2 e)) (hc : P.cellsOf e = d.sz) (hct : P.cellsOf t = d.sz + d.sz) (h : Rdg P e d ok) : Rdg P t (Kd.pair d d) (fun x => ok x.1 ∧ ok x.2) := by
  constructor
  intro H enc w fuel cs x hx
  obtain ⟨xs, m, _, _, hl, hxl, hf⟩ := DataW.trod_array ht hx
  have h0 := hf 0 (by omega)
  have h1 := hf 1 (by omega)
  rw [List.getElem?_eq_getElem (by omega)] at h0 h1
  obtain ⟨a, hK, ha⟩ := h.out enc w m _ _ h0
  obtain ⟨b, hK', hb⟩ := h.out enc w m _ _ h1
  rw [hc] at hK hK'
  refine ⟨(a, b), ⟨_, _, ?_, hK, hK'⟩, ha, hb⟩
  rw [Nat.zero_mul, List.drop_zero, Nat.one_mul, List.take_of_length_le (l := cs.drop d.sz) (by rw [List.length_drop]; omega), List.take_append_drop]
theorem Rdg.array3 (ht : P.underlying t = some (.array 3 e)) (hc : P.cellsOf e = d.sz) (hct : P.cellsOf t = d.sz + (d.sz + d.sz)) (h : Rdg P e d ok) : Rdg P t (Kd.pair d (Kd.pair d d)) (fun x => ok x.1 ∧ ok x.2.1 ∧ ok x.2.2) := by
  constructor
  intro H enc w fuel cs x hx
  obtain ⟨xs, m, _, _, hl, hxl, hf⟩ := DataW.trod_array ht hx
  have h0 := hf 0 (by omega)
  have h1 := hf 1 (by omega)
  have h2 := hf 2 (by omega)
  rw [List.getElem?_eq_getElem (by omega)] at h0 h1 h2
  obtain ⟨a, hK, ha⟩ := h.out enc w m _ _ h0
  obtain ⟨b, hK', hb⟩ := h.out enc w m _ _ h1
  obtain ⟨c, hK'', hcc⟩ := h.out enc w m _ _ h2
  rw [hc] at hK hK' hK''
  refine ⟨(a, b, c), ⟨_, _, ?_, hK, ⟨_, _, rfl, hK', hK''⟩⟩, ha, hb, hcc⟩
  rw [Nat.zero_mul, List.drop_zero, Nat.one_mul, Nat.two_mul, ← List.drop_drop, List.take_of_length_le (l := List.drop d.sz (List.drop d.sz cs)) (by simp only [List.length_drop]; omega), List.take_append_drop, List.take_append_drop]
/-- The fields of a struct from one on: they begin at cell 'off'. -/
structure Flds {α : Type} (P : Program) (fs : List Field) (off : Nat) (d : Kd α) (ok : α → Prop) : Prop where
  out : ∀ {H : Type} (enc : TypeId × Value → H) (w : World) (n : Nat) (cs : List Value), cs.length = off + d.sz →
    (∀ f ∈ fs, ∃ x, DataW.trod enc P w 0 (fun _ => true) true n f.type ((cs.drop f.offset).take (P.cellsOf f.type)) = some x) → ∃ a, d.K w a (cs.drop off) ∧ ok a
theorem Flds.last {f : Field} {off : Nat} (h : Rdg P f.type d ok) (ho : f.offset = off) (hs : P.cellsOf f.type = d.sz) : Flds P [f] off d ok := by
  constructor
  intro H enc w n cs hl hf
  obtain ⟨x, hx⟩ := hf f (by simp)
  rw [ho, hs, List.take_of_length_le (by rw [List.length_drop]; omega)] at hx
  exact h.out enc w n _ x hx
theorem Flds.cons {f : Field} {fs : List Field} {off : Nat} (h : Rdg P f.type d ok) (ho : f.offset = off) (hs : P.cellsOf f.type = d.sz) (r : Flds P fs (off + d.sz) b okb) : Flds P (f :: fs) off (Kd.pair d b) (fun x => ok x.1 ∧ okb x.2) := by
  constructor
  intro H enc w n cs hl hf
  have hl' : cs.length = off + (d.sz + b.sz) := hl
  obtain ⟨x, hx⟩ := hf f (by simp)
  rw [ho, hs] at hx
  obtain ⟨a, hK, hok⟩ := h.out enc w n _ x hx
  obtain ⟨a', hK', hok'⟩ := r.out enc w n cs (by omega) (fun g hg => hf g (by simp [hg]))
  refine ⟨(a, a'), ⟨_, _, ?_, hK, hK'⟩, hok, hok'⟩
  rw [← List.drop_drop, List.take_append_drop]
theorem Rdg.struct {fs : Array Field} (ht : P.underlying t = some (.struct fs)) (hc : P.cellsOf t = d.sz) (h : Flds P fs.toList 0 d ok) : Rdg P t d ok := by
  constructor
  intro H enc w fuel cs x hx
  obtain ⟨xs, n, _, _, hl, hxl, hf⟩ := DataW.trod_struct ht hx
  have := h.out enc w n cs (by omega) (fun f hf' => by
    obtain ⟨i, hi, he⟩ := List.getElem_of_mem hf'
    have h1 := hf i f (by rw [← he]; simp)
    rw [List.getElem?_eq_getElem (by simp at hi; omega)] at h1
    exact ⟨_, h1⟩)
  exact this
theorem Rdg.iso (h : Rdg P t d ok) (f : β → α) (g : α → β) (hg : ∀ a, f (g a) = a) : Rdg P t (Kd.iso d f) (fun y => ok (f y)) := by
  constructor
  intro H enc w fuel cs x hx
  obtain ⟨a, hK, hok⟩ := h.out enc w fuel cs x hx
  exact ⟨g a, by show d.K w (f (g a)) cs; rw [hg]; exact hK, by show ok (f (g a)); rw [hg]; exact hok⟩
/-- An argument that is a struct or an array: its cells, written out. -/
theorem Rdg.arg {H : Type} {enc : TypeId × Value → H} {w : World} {v : Value} {y : DataW H} {p : List MemPlace} (h : Rdg P t d ok) (hs : ∃ cs, v = .agg cs) (ht : DataW.Trod enc P w 0 (fun _ => true) true t v y p) :
    ∃ a l, v = .agg (List.toArray l) ∧ d.K w a l ∧ ok a := by
  obtain ⟨cs, rfl⟩ := hs
  obtain ⟨fuel, hf⟩ := ht
  obtain ⟨a, hK, hok⟩ := h.out enc w fuel _ _ hf
  refine ⟨a, cs.toList, by simp, ?_, hok⟩
  simpa [Value.cells] using hK
theorem agg_of {w : World} {r : Reach} {b0 : Nat} {v : Value} {fs : Array Field} (ht : P.underlying t = some (.struct fs)) (h : Value.okWide P w r b0 t v) : ∃ cs, v = .agg cs := by
  obtain ⟨cs, h1, _⟩ := WideShapes.okWide_struct ht h
  exact ⟨cs, h1⟩
theorem agg_of_array {w : World} {r : Reach} {b0 n : Nat} {v : Value} (ht : P.underlying t = some (.array n e)) (h : Value.okWide P w r b0 t v) : ∃ cs, v = .agg cs := by
  simp only [Value.okWide, ht] at h
  obtain ⟨cs, h1, _⟩ := h
  exact ⟨cs, h1⟩
/-- An argument that is a slice. -/
theorem Rdg.argslice {okl : List α → Prop} {H : Type} {enc : TypeId × Value → H} {w : World} {r : Reach} {b0 : Nat} {v : Value} {y : DataW H} {p : List MemPlace} (ht : P.underlying t = some (.slice e)) (h : Rdg P t (Kd.slice e d) okl) (hv : Value.okWide P w r b0 t v) (hx : DataW.Trod enc P w 0 (fun _ => true) true t v y p) :
    ∃ A c l, v = .slice A l.length c ∧ l.length ≤ c ∧ d.C w A l.length l ∧ okl l := by
  obtain ⟨a, n, c, rfl⟩ := WideShapes.okWide_slice ht hv
  obtain ⟨fuel, hf⟩ := hx
  obtain ⟨l, ⟨A, c', he, hl, hC⟩, hok⟩ := h.out enc w fuel _ _ hf
  simp [Value.cells] at he
  obtain ⟨rfl, rfl, rfl⟩ := he
  exact ⟨_, _, l, rfl, hl, hC, hok⟩
end Go.Proofs.Ytocnlpnlngnbnaa.RowLib
