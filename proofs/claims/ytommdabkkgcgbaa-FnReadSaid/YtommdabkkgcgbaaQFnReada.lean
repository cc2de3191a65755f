/- What the rows of this seat's laws need of their arguments: a struct of whole numbers by value, a State by value, a slice of structs of two whole numbers: each opened to its numbers. No conditions beyond the types' own facts. -/
import Derived.Deep.Slices
import Derived.ChangeSame
import Derived.ChangeOld
import Derived.SizedLaws
import Derived.WalkKit
import Derived.Test.YtommdabkkgcgbaaQFnReadw
namespace Go.Proofs.Ytommdabkkgcgbaa.Args
open Go.ChangeShapes Go.WideShapes Go.Deep Go.Proofs.YtommdabkkgcgbaaW.PrintWords
section
variable {H : Type} {enc : TypeId × Value → H} {P : Program} {w : World} {base : Nat} {spare : Nat → Bool} {held : Bool}

/-- A field of one cell that is a whole number. -/
def IntField (P : Program) (f : Field) (o : Nat) : Prop := P.underlying f.type = some (.int .i64) ∧ P.cellsOf f.type = 1 ∧ f.offset = o
def BoolField (P : Program) (f : Field) (o : Nat) : Prop := P.underlying f.type = some .bool ∧ P.cellsOf f.type = 1 ∧ f.offset = o

theorem int_at {fs : Array Field} {cs : List Value} {n i o : Nat} {xs : List (DataW H × List MemPlace)} {f : Field} (hl : xs.length = fs.size)
    (hf : ∀ (i : Nat) (f : Field), fs[i]? = some f → DataW.trod enc P w base spare held n f.type ((cs.drop f.offset).take (P.cellsOf f.type)) = xs[i]?)
    (hi : fs[i]? = some f) (h : IntField P f o) : ∃ a : Int, (cs.drop o).take 1 = [.int .i64 a] ∧ (Lit.int .i64 a).wf = true := by
  obtain ⟨h1, h2, h3⟩ := h
  have h4 := hf i f hi
  have hlt : i < xs.length := by rw [hl]; exact (Array.getElem?_eq_some_iff.1 hi).1
  rw [h2, h3, List.getElem?_eq_getElem hlt] at h4
  obtain ⟨a, e, _, hw⟩ := DataW.trod_int h1 h4
  exact ⟨a, e, hw⟩
theorem bool_at {fs : Array Field} {cs : List Value} {n i o : Nat} {xs : List (DataW H × List MemPlace)} {f : Field} (hl : xs.length = fs.size)
    (hf : ∀ (i : Nat) (f : Field), fs[i]? = some f → DataW.trod enc P w base spare held n f.type ((cs.drop f.offset).take (P.cellsOf f.type)) = xs[i]?)
    (hi : fs[i]? = some f) (h : BoolField P f o) : ∃ a : Bool, (cs.drop o).take 1 = [.bool a] := by
  obtain ⟨h1, h2, h3⟩ := h
  have h4 := hf i f hi
  have hlt : i < xs.length := by rw [hl]; exact (Array.getElem?_eq_some_iff.1 hi).1
  rw [h2, h3, List.getElem?_eq_getElem hlt] at h4
  obtain ⟨a, e, _⟩ := DataW.trod_bool h1 h4
  exact ⟨a, e⟩

/-- Two whole numbers in a row. -/
theorem cells2 {t : TypeId} {f0 f1 : Field} {fuel : Nat} {cs : List Value} {x : DataW H × List MemPlace} (hs : P.underlying t = some (.struct #[f0, f1])) (hC : P.cellsOf t = 2) (h0 : IntField P f0 0) (h1 : IntField P f1 1)
    (h : DataW.trod enc P w base spare held fuel t cs = some x) : ∃ a b : Int, cs = [.int .i64 a, .int .i64 b] ∧ (Lit.int .i64 a).wf = true ∧ (Lit.int .i64 b).wf = true := by
  obtain ⟨xs, n, rfl, rfl, hlen, hxl, hf⟩ := DataW.trod_struct hs h
  obtain ⟨a, ea, wa⟩ := int_at hxl hf (i := 0) rfl h0
  obtain ⟨b, eb, wb⟩ := int_at hxl hf (i := 1) rfl h1
  match cs, hlen.trans hC with
  | [c0, c1], _ =>
    simp at ea eb
    subst ea; subst eb
    exact ⟨a, b, rfl, wa, wb⟩

theorem agg2 {r : Reach} {b0 : Nat} {t : TypeId} {f0 f1 : Field} {v : Value} {d : DataW H} {p : List MemPlace} (hs : P.underlying t = some (.struct #[f0, f1])) (hC : P.cellsOf t = 2) (h0 : IntField P f0 0) (h1 : IntField P f1 1)
    (hv : Value.okWide P w r b0 t v) (h : DataW.Trod enc P w base spare held t v d p) : ∃ a b : Int, v = .agg #[.int .i64 a, .int .i64 b] ∧ (Lit.int .i64 a).wf = true ∧ (Lit.int .i64 b).wf = true := by
  obtain ⟨cs, rfl, hsz⟩ := okWide_struct hs hv
  obtain ⟨fuel, hf⟩ := h
  obtain ⟨a, b, e, wa, wb⟩ := cells2 hs hC h0 h1 hf
  have e' : cs.toList = [.int .i64 a, .int .i64 b] := e
  refine ⟨a, b, ?_, wa, wb⟩
  obtain ⟨l⟩ := cs
  simp at e'
  rw [e']

theorem agg5 {r : Reach} {b0 : Nat} {t : TypeId} {f0 f1 f2 f3 f4 : Field} {v : Value} {d : DataW H} {p : List MemPlace} (hs : P.underlying t = some (.struct #[f0, f1, f2, f3, f4])) (hC : P.cellsOf t = 5)
    (h0 : IntField P f0 0) (h1 : IntField P f1 1) (h2 : IntField P f2 2) (h3 : IntField P f3 3) (h4 : IntField P f4 4)
    (hv : Value.okWide P w r b0 t v) (h : DataW.Trod enc P w base spare held t v d p) :
    ∃ a0 a1 a2 a3 a4 : Int, v = .agg #[.int .i64 a0, .int .i64 a1, .int .i64 a2, .int .i64 a3, .int .i64 a4] ∧ (Lit.int .i64 a0).wf = true ∧ (Lit.int .i64 a1).wf = true ∧ (Lit.int .i64 a2).wf = true ∧ (Lit.int .i64 a3).wf = true ∧ (Lit.int .i64 a4).wf = true := by
  obtain ⟨cs, rfl, hsz⟩ := okWide_struct hs hv
  obtain ⟨fuel, hf⟩ := h
  obtain ⟨xs, n, rfl, _, hlen, hxl, hg⟩ := DataW.trod_struct hs hf
  obtain ⟨a0, e0, w0⟩ := int_at hxl hg (i := 0) rfl h0
  obtain ⟨a1, e1, w1⟩ := int_at hxl hg (i := 1) rfl h1
  obtain ⟨a2, e2, w2⟩ := int_at hxl hg (i := 2) rfl h2
  obtain ⟨a3, e3, w3⟩ := int_at hxl hg (i := 3) rfl h3
  obtain ⟨a4, e4, w4⟩ := int_at hxl hg (i := 4) rfl h4
  obtain ⟨l⟩ := cs
  match l, hlen.trans hC with
  | [c0, c1, c2, c3, c4], _ =>
    simp [Value.cells] at e0 e1 e2 e3 e4
    subst e0; subst e1; subst e2; subst e3; subst e4
    exact ⟨a0, a1, a2, a3, a4, rfl, w0, w1, w2, w3, w4⟩

/-- A State: a bool, a struct of two whole numbers, three whole numbers. -/
theorem aggS {r : Reach} {b0 : Nat} {t : TypeId} {f0 f1 f2 f3 f4 g0 g1 : Field} {v : Value} {d : DataW H} {p : List MemPlace} (hs : P.underlying t = some (.struct #[f0, f1, f2, f3, f4])) (hC : P.cellsOf t = 6)
    (h0 : BoolField P f0 0) (hb : P.underlying f1.type = some (.struct #[g0, g1])) (hbC : P.cellsOf f1.type = 2) (hbo : f1.offset = 1) (i0 : IntField P g0 0) (i1 : IntField P g1 1)
    (h2 : IntField P f2 3) (h3 : IntField P f3 4) (h4 : IntField P f4 5)
    (hv : Value.okWide P w r b0 t v) (h : DataW.Trod enc P w base spare held t v d p) :
    ∃ (a0 : Bool) (a1 a2 a3 a4 a5 : Int), v = .agg #[.bool a0, .int .i64 a1, .int .i64 a2, .int .i64 a3, .int .i64 a4, .int .i64 a5] ∧ (Lit.int .i64 a1).wf = true ∧ (Lit.int .i64 a2).wf = true ∧ (Lit.int .i64 a3).wf = true ∧ (Lit.int .i64 a4).wf = true ∧ (Lit.int .i64 a5).wf = true := by
  obtain ⟨cs, rfl, hsz⟩ := okWide_struct hs hv
  obtain ⟨fuel, hf⟩ := h
  obtain ⟨xs, n, rfl, _, hlen, hxl, hg⟩ := DataW.trod_struct hs hf
  obtain ⟨a0, e0⟩ := bool_at hxl hg (i := 0) rfl h0
  obtain ⟨a3, e3, w3⟩ := int_at hxl hg (i := 2) rfl h2
  obtain ⟨a4, e4, w4⟩ := int_at hxl hg (i := 3) rfl h3
  obtain ⟨a5, e5, w5⟩ := int_at hxl hg (i := 4) rfl h4
  have hx := hg 1 f1 rfl
  have hlt : 1 < xs.length := by rw [hxl]; simp
  rw [hbC, hbo, List.getElem?_eq_getElem hlt] at hx
  obtain ⟨a1, a2, e1, w1, w2⟩ := cells2 hb hbC i0 i1 hx
  obtain ⟨l⟩ := cs
  match l, hlen.trans hC with
  | [c0, c1, c2, c3, c4, c5], _ =>
    simp [Value.cells] at e0 e1 e3 e4 e5
    obtain ⟨e1, e2⟩ := e1
    subst e0; subst e1; subst e2; subst e3; subst e4; subst e5
    exact ⟨a0, a1, a2, a3, a4, a5, rfl, w1, w2, w3, w4, w5⟩

/-- A slice of structs of two whole numbers: its list, where its cells lie. -/
def Pairs (w : World) (a : Option Addr) (len cap : Nat) (l : List (Int × Int)) : Prop :=
  l.length = len ∧ len ≤ cap ∧ len ≤ 9223372036854775807 ∧ (∀ x ∈ l, (Lit.int .i64 x.1).wf = true ∧ (Lit.int .i64 x.2).wf = true) ∧
    (0 < len → ∃ ad, a = some ad ∧ ∀ j x, l[j]? = some x → w.cell? (ad.add (j * 2)) = some (.int .i64 x.1) ∧ w.cell? (ad.add (j * 2 + 1)) = some (.int .i64 x.2))

theorem pairs {t e : TypeId} {f0 f1 : Field} {a : Option Addr} {len cap : Nat} {d : DataW H} {p : List MemPlace} (ht : P.underlying t = some (.slice e)) (hs : P.underlying e = some (.struct #[f0, f1])) (hC : P.cellsOf e = 2) (h0 : IntField P f0 0) (h1 : IntField P f1 1)
    (h : DataW.Trod enc P w base spare held t (.slice a len cap) d p) : ∃ l, Pairs w a len cap l := by
  obtain ⟨fuel, hf⟩ := h
  rcases open_slice ht hf with ⟨hcs, _⟩ | ⟨x, l, c, m, n, D, Pl, hcs, _, hl, hm, hmm, _, hi⟩
  · simp [Value.cells] at hcs
    obtain ⟨rfl, rfl, rfl⟩ := hcs
    exact ⟨[], rfl, Nat.le_refl _, by omega, by simp, fun h => absurd h (by omega)⟩
  · simp [Value.cells] at hcs
    obtain ⟨rfl, rfl, rfl⟩ := hcs
    have hlm : len ≤ m := by rw [hmm]; split <;> omega
    have each : ∀ i, i < len → ∃ y : Int × Int, ((Lit.int .i64 y.1).wf = true ∧ (Lit.int .i64 y.2).wf = true) ∧ w.cell? (x.add (i * 2)) = some (.int .i64 y.1) ∧ w.cell? (x.add (i * 2 + 1)) = some (.int .i64 y.2) := by
      intro i hlt
      obtain ⟨cs', hc, ht'⟩ := hi i (by omega)
      rw [hC] at hc
      obtain ⟨u, v, rfl, wu, wv⟩ := cells2 hs hC h0 h1 ht'
      obtain ⟨_, _, hat⟩ := World.cells?_some hc
      have g0 := hat 0 (by simp)
      have g1 := hat 1 (by simp)
      refine ⟨(u, v), ⟨wu, wv⟩, ?_, ?_⟩
      · rw [Go.Deep.add_add] at g0
        simpa using g0
      · rw [Go.Deep.add_add] at g1
        simpa using g1
    obtain ⟨Y, hY⟩ : ∃ Y : Nat → Int × Int, ∀ i, i < len → ((Lit.int .i64 (Y i).1).wf = true ∧ (Lit.int .i64 (Y i).2).wf = true) ∧ w.cell? (x.add (i * 2)) = some (.int .i64 (Y i).1) ∧ w.cell? (x.add (i * 2 + 1)) = some (.int .i64 (Y i).2) := by
      refine ⟨fun i => if hlt : i < len then Classical.choose (each i hlt) else (0, 0), fun i hlt => ?_⟩
      simp only [hlt, dif_pos]
      exact Classical.choose_spec (each i hlt)
    refine ⟨(List.range len).map Y, by simp, hl, Nat.le_trans hl (by simp only [maxLen] at hm; omega), ?_, fun _ => ⟨x, rfl, ?_⟩⟩
    · intro z hz
      obtain ⟨i, hlt, rfl⟩ := List.mem_map.1 hz
      exact (hY i (List.mem_range.1 hlt)).1
    · intro j z hz
      obtain ⟨hlt, rfl⟩ := List.getElem?_eq_some_iff.1 hz
      have hlt' : j < len := by simpa using hlt
      rw [List.getElem_map, List.getElem_range]
      exact (hY j hlt').2

theorem pairs_C {α : Type} {k : Kd α} {a : Option Addr} {len cap : Nat} {l : List (Int × Int)} (mk : Int × Int → α) (hsz : k.sz = 2) (hK : ∀ (w : World) (x : Int × Int), k.K w (mk x) [.int .i64 x.1, .int .i64 x.2]) (h : Pairs w a len cap l) :
    k.C w a (l.map mk).length (l.map mk) := by
  obtain ⟨hl, _, hm, _, hc⟩ := h
  refine ⟨rfl, by rw [List.length_map, hl]; exact hm, fun hn => ?_⟩
  rw [List.length_map, hl] at hn
  obtain ⟨ad, e, hc⟩ := hc hn
  refine ⟨ad, e, fun j q hj => ?_⟩
  rw [List.getElem?_map] at hj
  obtain ⟨x, hx, rfl⟩ := Option.map_eq_some_iff.1 hj
  obtain ⟨c0, c1⟩ := hc j x hx
  refine ⟨_, by rw [hsz]; rfl, hK w x, fun i u hu => ?_⟩
  rw [hsz]
  match i, hu with
  | 0, hu => rw [← Option.some.inj hu]; exact c0
  | 1, hu => rw [← Option.some.inj hu]; exact c1
  | i + 2, hu => simp at hu

/-- A slice of whole numbers: its list, where its cells lie. -/
def Ints (k : IntKind) (w : World) (a : Option Addr) (len cap : Nat) (l : List Int) : Prop :=
  l.length = len ∧ len ≤ cap ∧ len ≤ 9223372036854775807 ∧ (∀ x ∈ l, (Lit.int k x).wf = true) ∧ (0 < len → ∃ ad, a = some ad ∧ ∀ j x, l[j]? = some x → w.cell? (ad.add j) = some (.int k x))
theorem ints {k : IntKind} {t e : TypeId} {a : Option Addr} {len cap : Nat} {d : DataW H} {p : List MemPlace} (ht : P.underlying t = some (.slice e)) (he : P.underlying e = some (.int k)) (hC : P.cellsOf e = 1)
    (h : DataW.Trod enc P w base spare held t (.slice a len cap) d p) : ∃ l, Ints k w a len cap l := by
  obtain ⟨fuel, hf⟩ := h
  rcases open_ints ht he hC hf with ⟨hcs, _⟩ | ⟨x, l, c, zs, hcs, _, hl, hm, hz, _, hcell, hwz⟩
  · simp [Value.cells] at hcs
    obtain ⟨rfl, rfl, rfl⟩ := hcs
    exact ⟨[], rfl, Nat.le_refl _, by omega, by simp, fun h => absurd h (by omega)⟩
  · simp [Value.cells] at hcs
    obtain ⟨rfl, rfl, rfl⟩ := hcs
    have hlz : len ≤ zs.length := by rw [hz]; split <;> omega
    refine ⟨zs.take len, by simp; omega, hl, Nat.le_trans hl (by simp only [maxLen] at hm; omega), fun x hx => hwz x (List.mem_of_mem_take hx), fun _ => ⟨x, rfl, fun j y hy => ?_⟩⟩
    have hj : j < len := by
      have := (List.getElem?_eq_some_iff.1 hy).1
      simp at this
      omega
    rw [List.getElem?_take_of_lt hj] at hy
    rw [hcell j (by omega), List.getD_eq_getElem?_getD, hy]
    rfl
theorem ints_C {k : IntKind} {a : Option Addr} {len cap : Nat} {l : List Int} (h : Ints k w a len cap l) : (Kd.int k).C w a l.length l := by
  obtain ⟨hl, _, hm, _, hc⟩ := h
  refine ⟨rfl, by rw [hl]; exact hm, fun hn => ?_⟩
  rw [hl] at hn
  obtain ⟨ad, e, hc⟩ := hc hn
  refine ⟨ad, e, fun j q hj => ⟨[.int k q], rfl, rfl, fun i u hu => ?_⟩⟩
  match i, hu with
  | 0, hu => rw [← Option.some.inj hu]; simpa [Kd.int, Kd.scalar] using hc j q hj
  | i + 1, hu => simp at hu

/-- A slice is no longer than its weight allows. -/
theorem sized {t e : TypeId} {a : Option Addr} {len cap : Nat} {d : DataW H} {p : List MemPlace} {ts : List TypeId} {ds : List (DataW H)} {j : Nat}
    (hsz : (DataW.weightsEach P ts ds).all (· ≤ reachBytes) = true) (ht : ts[j]? = some t) (hd : ds[j]? = some d) (hu : P.underlying t = some (.slice e)) {B : Nat} (hB : P.bytesOf e = B)
    (h : DataW.Trod enc P w base spare held t (.slice a len cap) d p) : len * B ≤ 140737488351232 := by
  obtain ⟨fuel, hf⟩ := h
  rcases open_slice hu hf with ⟨hcs, _⟩ | ⟨x, l, c, m, n, D, Pl, hcs, _, hl, hm, hmm, hx, hi⟩
  · simp [Value.cells] at hcs
    obtain ⟨rfl, rfl, rfl⟩ := hcs
    simp
  · simp [Value.cells] at hcs
    obtain ⟨rfl, rfl, rfl⟩ := hcs
    obtain ⟨hx, _⟩ := Prod.mk.inj hx
    subst hx
    have z := sized_slice hsz ht hd hu
    rw [hB] at z
    simp only [List.length_map, List.length_range] at z
    exact Nat.le_trans (Nat.mul_le_mul_right _ (Nat.le_add_right _ _)) z
end
end Go.Proofs.Ytommdabkkgcgbaa.Args
