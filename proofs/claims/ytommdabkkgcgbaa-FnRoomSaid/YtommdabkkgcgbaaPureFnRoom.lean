/- The plain law of laws.FnRoom: what the printed functions compute answers true at every input, in plain Lean, without Go and memory. Its conditions: each number is an int64, each slice takes fewer than 2^47 bytes. -/
import Derived.Test.YtommdabkkgcgbaaQFnRoomx3
namespace Go.Proofs.Ytommdabkkgcgbaa.Pure
open Go.RowKit Go.Proofs.Ytommdabkkgcgbaa.QFnRoom Go.Proofs.YtommdabkkgcgbaaW.PrintWords Go.Proofs.YtommdabkkgcgbaaW.PrintLast Go.Proofs.YtommdabkkgcgbaaW.PrintMore
set_option linter.unusedVariables false
set_option linter.unusedSimpArgs false
theorem sd {p : Prop} [Decidable p] {b : Bool} (h : b = true ↔ p) : some b = some (decide p) := by
  cases b <;> simp_all
abbrev okR (s j m l o : Int) : Prop := 0 ≤ s ∧ s ≤ 500 ∧ 0 ≤ j ∧ j ≤ 1000 ∧ 0 ≤ m ∧ m ≤ 10000 ∧ 1 ≤ l ∧ l ≤ 1000000 ∧ 0 ≤ o ∧ o ≤ 10000
abbrev okB (a b : Int) : Prop := -100000000 ≤ a ∧ a ≤ b ∧ b ≤ 100000000
abbrev okE (op n : Int) : Prop := (op = 1 ∧ 0 ≤ n ∧ n ≤ 100000) ∨ (op = 2 ∧ 1 ≤ n ∧ n ≤ 1000000000) ∨ ((op = 3 ∨ op = 4) ∧ n = 0)
theorem wf64 {a : Int} (h : (Lit.int .i64 a).wf = true) : -9223372036854775808 ≤ a ∧ a ≤ 9223372036854775807 := by
  have h' := h
  simp [Lit.wf, IntKind.min, IntKind.max, IntKind.signed, IntKind.bits] at h'
  omega
theorem impl_in_eq (x a b : Int) : impl_in.f x a b = some (decide (a ≤ x ∧ x ≤ b)) := by
  unfold impl_in.f
  split <;> (apply sd; simp only [decide_eq_true_eq, Bool.false_eq_true, false_iff]; omega)
theorem impl_BoundOk_eq (a b : Int) : impl_BoundOk.f a b = some (decide (okB a b)) := by
  simp only [impl_BoundOk.f, impl_in_eq, Option.bind_some, decide_eq_true_eq]
  split <;> (apply sd; simp only [decide_eq_true_eq, Bool.false_eq_true, false_iff]; omega)
theorem impl_RulesOk_eq (s j m l o : Int) : impl_RulesOk.f s j m l o = some (decide (okR s j m l o)) := by
  simp only [impl_RulesOk.f, impl_in_eq, Option.bind_some, decide_eq_true_eq]
  (repeat' split) <;> (apply sd; simp only [decide_eq_true_eq, Bool.false_eq_true, false_iff]; omega)
theorem impl_told_eq (s j m l o : Int) (k : Bool) (lo hi x y z : Int) : impl_told.f s j m l o k lo hi x y z = some (decide (okR s j m l o ∧ k = true ∧ okB lo hi)) := by
  simp only [impl_told.f, impl_RulesOk_eq, impl_BoundOk_eq, Option.bind_some, decide_eq_true_eq]
  split
  · rename_i h1
    cases k
    · rw [if_neg (by decide)]
      exact congrArg some (decide_eq_false (fun h => by cases h.2.1)).symm
    · rw [if_pos rfl]
      exact congrArg some (decide_eq_decide.2 ⟨fun h => ⟨h1, rfl, h⟩, fun h => h.2.2⟩)
  · rename_i h1
    exact congrArg some (decide_eq_false (fun h => h1 h.1)).symm
theorem w64 {a : Int} (h : -9223372036854775808 ≤ a ∧ a ≤ 9223372036854775807) : wrap64 a = a := by unfold wrap64; omega
/-- The least and the most that wheels can have come, in closed form. -/
def lst (s j c : Int) : Int := if 0 < c - j then (1000 * (c - j) + 999 + s) / (1000 + s) else 0
def mst (s j c : Int) : Int := 1000 * (c + j) / (1000 - s)
def stay (x : Int) : Int := max (-100000000) (min x 100000000)
theorem lst_le_iff {s j c x : Int} (hs : 0 ≤ s) (hx : 0 ≤ x) : lst s j c ≤ x ↔ 1000 * (c - j) ≤ 1000 * x + s * x := by
  have hp : 0 ≤ s * x := Int.mul_nonneg hs hx
  unfold lst
  split
  · rw [← Int.lt_add_one_iff, Int.ediv_lt_iff_lt_mul (by omega)]
    have e : (x + 1) * (1000 + s) = 1000 * x + s * x + 1000 + s := by
      rw [Int.add_mul, Int.mul_add, Int.mul_comm x 1000, Int.mul_comm x s]; omega
    rw [e]
    omega
  · constructor
    · intro _; omega
    · intro _; exact hx
theorem lst_nonneg {s j c : Int} (hs : 0 ≤ s) : 0 ≤ lst s j c := by
  unfold lst
  split
  · exact Int.ediv_nonneg (by omega) (by omega)
  · omega
theorem le_mst_iff {s j c x : Int} (hs : s ≤ 500) : x ≤ mst s j c ↔ 1000 * x - s * x ≤ 1000 * (c + j) := by
  unfold mst
  rw [Int.le_ediv_iff_mul_le (by omega)]
  have e : x * (1000 - s) = 1000 * x - s * x := by rw [Int.mul_sub, Int.mul_comm x 1000, Int.mul_comm x s]
  rw [e]
theorem mst_le {s j c : Int} (h0 : 0 ≤ s) (hs : s ≤ 500) (hj : 0 ≤ j ∧ j ≤ 1000) (hc : 0 ≤ c ∧ c ≤ 100000) : mst s j c ≤ 202000 := by
  unfold mst
  rw [← Int.lt_add_one_iff, Int.ediv_lt_iff_lt_mul (by omega)]
  omega
theorem lst_le {s j c : Int} (h0 : 0 ≤ s) (hj : 0 ≤ j) (hc : 0 ≤ c) : lst s j c ≤ c := by
  have hp : 0 ≤ s * c := Int.mul_nonneg h0 hc
  rw [lst_le_iff h0 hc]; omega
theorem le_mst {s j c : Int} (h0 : 0 ≤ s) (hs : s ≤ 500) (hj : 0 ≤ j) (hc : 0 ≤ c) : c ≤ mst s j c := by
  have hp : 0 ≤ s * c := Int.mul_nonneg h0 hc
  rw [le_mst_iff hs]; omega
theorem sx_bd {s x : Int} (h0 : 0 ≤ s) (hs : s ≤ 500) (hx : 0 ≤ x) (hx2 : x ≤ 300000) : 0 ≤ s * x ∧ s * x ≤ 150000000 := by
  refine ⟨Int.mul_nonneg h0 hx, ?_⟩
  have := Int.mul_le_mul hs hx2 hx (by omega)
  omega
abbrev fairP (s j x c : Int) : Prop := 1000 * (x - c) ≤ s * x + 1000 * j ∧ 1000 * (c - x) ≤ s * x + 1000 * j
/-- What Wheel answers. -/
def wheelV (s j m l o a b c : Int) : Int × Int := if okR s j m l o ∧ okB a b ∧ (0 ≤ c ∧ c ≤ 100000) then (stay (a + lst s j c), stay (b + mst s j c)) else (0, 0)
/-- What Read answers. -/
def readV (s j m l o a b x : Int) : Int × Int :=
  if okR s j m l o ∧ okB a b ∧ (0 ≤ x ∧ x ≤ 100000000) then
    (if a ≤ stay (x + m) ∧ stay (x - m) ≤ b then (max a (stay (x - m)), min b (stay (x + m))) else (min a (stay (x - m)), max b (stay (x + m)))) else (0, 0)
theorem impl_MarksOk_eq (l : List S37) : impl_MarksOk.f l = some (marksB l) := rfl
theorem marksB_false {l : List S37} {i : Nat} (hi : i < l.length) (h : okAt l i = false) : marksB l = false := by
  unfold marksB
  rw [Bool.and_eq_false_iff]
  right
  rw [List.all_eq_false]
  exact ⟨i, List.mem_range.2 hi, by rw [h]; decide⟩
theorem okAt_of {l : List S37} (h : marksB l = true) {i : Nat} (hi : i < l.length) : okAt l i = true := by
  unfold marksB at h
  rw [Bool.and_eq_true, List.all_eq_true] at h
  exact h.2 i (List.mem_range.2 hi)
theorem marks_len {l : List S37} (h : marksB l = true) : l.length ≤ 100 := by
  unfold marksB at h
  rw [Bool.and_eq_true] at h
  exact of_decide_eq_true h.1
theorem okAt_range {l : List S37} {i : Nat} (h : okAt l i = true) : (1 ≤ (rd_T37 l (i : Int)).f0 ∧ (rd_T37 l (i : Int)).f0 ≤ 1000000000) ∧ (0 ≤ (rd_T37 l (i : Int)).f1 ∧ (rd_T37 l (i : Int)).f1 ≤ 100000000) := by
  unfold okAt at h
  simp only [Bool.and_eq_true, decide_eq_true_eq] at h
  exact ⟨h.1.1.1, h.1.2⟩
/-- The rounds that suffice for a list of n marks. -/
def Kn (n : Nat) : Nat := n * (n + 3) + 2 * n + 300000
def nextV (a : Int) : List S37 → Nat → Int
  | [], _ => -1
  | x :: r, i => if a < x.f1 then (i : Int) else nextV a r (i + 1)
theorem rd_Mark (xs : List S37) (i : Nat) (h : i < xs.length) : rd_T37 xs (i : Int) = xs[i] := by
  simp [rd_T37, List.getD_eq_getElem?_getD, h]
theorem impl_Next_loop (l : List S37) (hn : l.length ≤ 9000000000000) (kn : Bool) (a b c e f : Int) (d : Nat) : ∀ (k i : Nat), i + d = l.length → d < k → impl_Next.l0 k l (l.length : Int) (i : Int) kn a b c e f = some (nextV a (l.drop i) i) := by
  induction d with
  | zero =>
    intro k i hi hk
    obtain ⟨k, rfl⟩ : ∃ m, k = m + 1 := ⟨k - 1, by omega⟩
    simp only [impl_Next.l0]
    rw [if_neg (by omega), List.drop_of_length_le (by omega)]
    rfl
  | succ d ih =>
    intro k i hi hk
    obtain ⟨k, rfl⟩ : ∃ m, k = m + 1 := ⟨k - 1, by omega⟩
    simp only [impl_Next.l0]
    rw [if_pos (by omega), if_pos (by omega), if_pos (by omega), rd_Mark l i (by omega), w64 (a := (i : Int) + 1) (by omega), List.drop_eq_getElem_cons (show i < l.length by omega)]
    simp only [nextV]
    by_cases h : a < l[i].f1
    · rw [if_pos (show l[i].f1 > a from h), if_pos h]
    · rw [if_neg (show ¬ l[i].f1 > a from h), if_neg h]
      exact ih k (i + 1) (by omega) (by omega)
theorem impl_Next_eq (l : List S37) (hn : l.length ≤ 9000000000000) (kn : Bool) (a b c e f : Int) {k : Nat} (hk : l.length + 1 < k) :
    impl_Next.f k l kn a b c e f = some (if marksB l = true ∧ kn = true ∧ okB a b then nextV a l 0 else -1) := by
  obtain ⟨k, rfl⟩ : ∃ m, k = m + 1 := ⟨k - 1, by omega⟩
  simp only [impl_Next.f, impl_MarksOk_eq, impl_BoundOk_eq, Option.bind_some, impl_Next.j0]
  have hl := impl_Next_loop l hn kn a b c e f l.length k 0 (by omega) (by omega)
  rw [show ((0 : Nat) : Int) = 0 from rfl, List.drop_zero] at hl
  by_cases h1 : marksB l = true
  · rw [if_pos h1]
    cases kn with
    | true =>
      rw [if_pos rfl]
      by_cases h2 : okB a b
      · rw [decide_eq_true h2, if_pos (show marksB l = true ∧ true = true ∧ okB a b from ⟨h1, rfl, h2⟩)]
        exact hl
      · rw [decide_eq_false h2, if_neg (show ¬ (marksB l = true ∧ true = true ∧ okB a b) from fun h => h2 h.2.2)]
        rfl
    | false =>
      rw [if_neg (by decide), if_neg (show ¬ (marksB l = true ∧ false = true ∧ okB a b) from fun h => by cases h.2.1)]
      rfl
  · rw [if_neg h1, if_neg (show ¬ (marksB l = true ∧ kn = true ∧ okB a b) from fun h => h1 h.1)]
    rfl
theorem wrap_u64 (n : Int) : IntKind.u64.wrap n = n % 18446744073709551616 := by simp [IntKind.wrap, IntKind.bits, IntKind.signed]
theorem and255 {x : Int} (h0 : 0 ≤ x) (h1 : x < 18446744073709551616) : Go.bits .and .u64 x 255 = x % 256 :=
  Go.bits_mask .u64 64 (by decide) (fun n h h' => by rw [wrap_u64]; omega) 8 (by decide) x h0 h1
theorem rd_byte {l : List Int} (hl : ∀ x ∈ l, (Lit.int .u8 x).wf = true) (i : Int) (h0 : 0 ≤ i) (h1 : i < (l.length : Int)) : 0 ≤ rd l i ∧ rd l i ≤ 255 := by
  have hi : i.toNat < l.length := by omega
  have e : rd l i = l[i.toNat] := by simp [rd, List.getD_eq_getElem?_getD, hi]
  have h := hl _ (List.getElem_mem hi)
  rw [← e] at h
  simp [Lit.wf, IntKind.min, IntKind.max, IntKind.signed, IntKind.bits] at h
  omega
theorem next_ok {l : List Int} (hl : ∀ x ∈ l, (Lit.int .u8 x).wf = true) (p s : Int) (h0 : 0 ≤ p) (h1 : p ≤ 1000000000) : ∃ v s', spec_l5Cur_next.f l p s = some (v, p + 1, s') ∧ 0 ≤ v ∧ v ≤ 255 := by
  unfold spec_l5Cur_next.f
  rw [w64 (a := p + 1) (by omega)]
  by_cases h : p < (l.length : Int)
  · rw [if_pos h, if_pos h0]
    have hb := rd_byte hl p h0 h
    rw [w64 (a := rd l p) (by omega)]
    exact ⟨_, _, rfl, hb.1, hb.2⟩
  · rw [if_neg h]
    have hq : 0 ≤ IntKind.u64.wrap ((IntKind.u64.wrap (s * 6364136223846793005)) + 1442695040888963407) / 1099511627776 ∧ IntKind.u64.wrap ((IntKind.u64.wrap (s * 6364136223846793005)) + 1442695040888963407) / 1099511627776 < 18446744073709551616 := by
      rw [wrap_u64 (IntKind.u64.wrap (s * 6364136223846793005) + 1442695040888963407)]
      generalize IntKind.u64.wrap (s * 6364136223846793005) + 1442695040888963407 = q
      omega
    generalize IntKind.u64.wrap ((IntKind.u64.wrap (s * 6364136223846793005)) + 1442695040888963407) / 1099511627776 = q at hq ⊢
    rw [and255 hq.1 hq.2, w64 (a := q % 256) (by omega)]
    exact ⟨_, _, rfl, by omega, by omega⟩
theorem pick_ok {l : List Int} (hl : ∀ x ∈ l, (Lit.int .u8 x).wf = true) (p s : Int) (h0 : 0 ≤ p) (h1 : p ≤ 1000000000) (n : Int) (hn : 1 < n) (hn2 : n ≤ 200) :
    ∃ v p' s', spec_l5Cur_pick.f l p s n = some (v, p', s') ∧ (0 ≤ v ∧ v < n) ∧ p ≤ p' ∧ p' ≤ p + 2 := by
  unfold spec_l5Cur_pick.f
  obtain ⟨v, s', e, hv⟩ := next_ok hl p s h0 h1
  rw [if_neg (by omega), e]
  simp only [Option.bind_some]
  rw [if_neg (by omega), if_neg (by omega), Int.tmod_eq_emod_of_nonneg hv.1]
  exact ⟨_, _, _, rfl, ⟨Int.emod_nonneg _ (by omega), Int.emod_lt_of_pos _ (by omega)⟩, by omega, by omega⟩
theorem wide_ok {l : List Int} (hl : ∀ x ∈ l, (Lit.int .u8 x).wf = true) (p s : Int) (h0 : 0 ≤ p) (h1 : p ≤ 900000000) (n : Int) (hn : 0 < n) :
    ∃ v p' s', spec_l5Cur_wide.f l p s n = some (v, p', s') ∧ (0 ≤ v ∧ v < n) ∧ p ≤ p' ∧ p' ≤ p + 2 := by
  unfold spec_l5Cur_wide.f
  obtain ⟨v, s', e, hv⟩ := next_ok hl p s h0 (by omega)
  obtain ⟨u, s2, e2, hu⟩ := next_ok hl (p + 1) s' (by omega) (by omega)
  rw [e]
  simp only [Option.bind_some]
  rw [e2]
  simp only [Option.bind_some]
  rw [if_neg (by omega), w64 (a := v * 256) (by omega), w64 (a := v * 256 + u) (by omega), Int.tmod_eq_emod_of_nonneg (by omega)]
  exact ⟨_, _, _, rfl, ⟨Int.emod_nonneg _ (by omega), Int.emod_lt_of_pos _ (by omega)⟩, by omega, by omega⟩
theorem rules_ok {l : List Int} (hl : ∀ x ∈ l, (Lit.int .u8 x).wf = true) (p s : Int) (h0 : 0 ≤ p) (h1 : p ≤ 100000000) :
    ∃ sl j m lg lo p' s', spec_l5Cur_rules.f l p s = some (sl, j, m, lg, lo, p', s') ∧ (0 ≤ sl ∧ sl < 80) ∧ (0 ≤ j ∧ j < 6) ∧ (0 ≤ m ∧ m < 30) ∧ (1 ≤ lg ∧ lg ≤ 400) ∧ (0 ≤ lo ∧ lo < 20) ∧ p ≤ p' ∧ p' ≤ p + 12 := by
  unfold spec_l5Cur_rules.f
  obtain ⟨a1, p1, s1, e1, b1, c1⟩ := pick_ok hl p s h0 (by omega) 80 (by omega) (by omega)
  obtain ⟨a2, p2, s2, e2, b2, c2⟩ := pick_ok hl p1 s1 (by omega) (by omega) 6 (by omega) (by omega)
  obtain ⟨a3, p3, s3, e3, b3, c3⟩ := pick_ok hl p2 s2 (by omega) (by omega) 30 (by omega) (by omega)
  obtain ⟨a4, p4, s4, e4, b4, c4⟩ := wide_ok hl p3 s3 (by omega) (by omega) 400 (by omega)
  obtain ⟨a5, p5, s5, e5, b5, c5⟩ := pick_ok hl p4 s4 (by omega) (by omega) 20 (by omega) (by omega)
  obtain ⟨a6, p6, s6, e6, b6, c6⟩ := pick_ok hl p5 s5 (by omega) (by omega) 5 (by omega) (by omega)
  simp only [e1, e2, e3, e4, e5, e6, Option.bind_some]
  rw [w64 (a := 1 + a4) (by omega)]
  split
  · exact ⟨_, _, _, _, _, _, _, rfl, by omega, b2, b3, by omega, b5, by omega, by omega⟩
  · exact ⟨_, _, _, _, _, _, _, rfl, b1, b2, b3, by omega, b5, by omega, by omega⟩
theorem wByte_ok {l : List Int} (hl : ∀ x ∈ l, (Lit.int .u8 x).wf = true) (i : Int) (h0 : 0 ≤ i) : ∃ v, laws_wByte.f l i = some v ∧ 0 ≤ v ∧ v ≤ 255 := by
  unfold laws_wByte.f
  by_cases h : (l.length : Int) = 0
  · rw [if_pos h]
    exact ⟨0, rfl, by omega, by omega⟩
  · rw [if_neg h, Int.tmod_eq_emod_of_nonneg h0]
    have h1 := Int.emod_nonneg i h
    have h2 := Int.emod_lt_of_pos i (show 0 < (l.length : Int) by omega)
    have hb := rd_byte hl _ h1 h2
    rw [if_pos h1, if_pos h2, w64 (by omega)]
    exact ⟨_, rfl, hb⟩
/-- Marks as they are drawn: places rise, names fall. -/
def Drawn (ms : List S37) : Prop := ms.length ≤ 7 ∧ ms.Pairwise (fun x y => x.f1 < y.f1 ∧ y.f0 < x.f0) ∧ ∀ x ∈ ms, (1 ≤ x.f0 ∧ x.f0 ≤ 1000) ∧ (0 ≤ x.f1 ∧ x.f1 ≤ 6000)
theorem marks_loop {l : List Int} (hl : ∀ x ∈ l, (Lit.int .u8 x).wf = true) (d : Nat) : ∀ (k : Nat) (acc : List S37) (at_ c p s : Int), c = d → d < k → (acc.length : Int) + c ≤ 7 → 0 ≤ at_ → at_ ≤ 300 + 700 * (acc.length : Int) →
    0 ≤ p → p ≤ 10000000 + 4 * (acc.length : Int) → acc.Pairwise (fun x y => x.f1 < y.f1 ∧ y.f0 < x.f0) → (∀ x ∈ acc, (1 ≤ x.f0 ∧ x.f0 ≤ 1000) ∧ (0 ≤ x.f1 ∧ x.f1 ≤ 6000) ∧ x.f1 < at_ ∧ 7 * c + 4 < x.f0) →
    ∃ ms p' s', spec_l5Cur_marks.l0 k acc at_ c l p s = some (ms, p', s') ∧ Drawn ms ∧ 0 ≤ p' ∧ p' ≤ 10000100 := by
  induction d with
  | zero =>
    intro k acc at_ c p s hc hk hlen ha ha2 hp hp2 hpw hall
    obtain ⟨k, rfl⟩ : ∃ m, k = m + 1 := ⟨k - 1, by omega⟩
    simp only [spec_l5Cur_marks.l0]
    rw [if_neg (by omega)]
    exact ⟨_, _, _, rfl, ⟨by omega, hpw, fun x hx => ⟨(hall x hx).1, (hall x hx).2.1⟩⟩, by omega, by omega⟩
  | succ d ih =>
    intro k acc at_ c p s hc hk hlen ha ha2 hp hp2 hpw hall
    obtain ⟨k, rfl⟩ : ∃ m, k = m + 1 := ⟨k - 1, by omega⟩
    simp only [spec_l5Cur_marks.l0]
    obtain ⟨a1, p1, s1, e1, b1, c1⟩ := pick_ok hl p s hp (by omega) 3 (by omega) (by omega)
    obtain ⟨a2, p2, s2, e2, b2, c2⟩ := wide_ok hl p1 s1 (by omega) (by omega) 600 (by omega)
    rw [if_pos (by omega), e1]
    simp only [Option.bind_some]
    rw [if_pos (by omega), e2]
    simp only [Option.bind_some]
    rw [w64 (a := 7 * c) (by omega), w64 (a := 1 + 7 * c) (by omega), w64 (a := 1 + 7 * c + a1) (by omega), w64 (a := 1 + a2) (by omega), w64 (a := at_ + (1 + a2)) (by omega), w64 (a := c - 1) (by omega)]
    refine ih k _ _ _ _ _ (by omega) (by omega) (by simp; omega) (by omega) (by simp; omega) (by omega) (by simp; omega) ?_ ?_
    · rw [List.pairwise_append]
      refine ⟨hpw, by simp, fun x hx y hy => ?_⟩
      rw [List.mem_singleton] at hy
      subst hy
      have := hall x hx
      exact ⟨this.2.2.1, by show 1 + 7 * c + a1 < x.f0; omega⟩
    · intro x hx
      rcases List.mem_append.1 hx with hx | hx
      · have := hall x hx
        exact ⟨this.1, this.2.1, by omega, by omega⟩
      · rw [List.mem_singleton] at hx
        subst hx
        refine ⟨⟨?_, ?_⟩, ⟨?_, ?_⟩, ?_, ?_⟩ <;> dsimp only <;> omega
theorem marks_ok {l : List Int} (hl : ∀ x ∈ l, (Lit.int .u8 x).wf = true) (p s : Int) (h0 : 0 ≤ p) (h1 : p ≤ 1000000) {k : Nat} (hk : 8 ≤ k) :
    ∃ ms p' s', spec_l5Cur_marks.f k l p s = some (ms, p', s') ∧ Drawn ms ∧ 0 ≤ p' ∧ p' ≤ 10000100 := by
  unfold spec_l5Cur_marks.f
  obtain ⟨a1, p1, s1, e1, b1, c1⟩ := wide_ok hl p s h0 (by omega) 300 (by omega)
  obtain ⟨a2, p2, s2, e2, b2, c2⟩ := pick_ok hl p1 s1 (by omega) (by omega) 8 (by omega) (by omega)
  simp only [e1, e2, Option.bind_some]
  exact marks_loop hl a2.toNat k [] a1 a2 p2 s2 (by omega) (by omega) (by simp; omega) (by omega) (by simp; omega) (by omega) (by simp; omega) (by simp) (by simp)
theorem known_ok {l : List Int} (hl : ∀ x ∈ l, (Lit.int .u8 x).wf = true) {k : Nat} (hk : 8 ≤ k) :
    ∃ sl j m lg lo ms a b, spec_Known.f k l = some (sl, j, m, lg, lo, ms, true, a, b, 0, (-1), 0) ∧ ((0 ≤ sl ∧ sl < 80) ∧ (0 ≤ j ∧ j < 6) ∧ (0 ≤ m ∧ m < 30) ∧ (1 ≤ lg ∧ lg ≤ 400) ∧ (0 ≤ lo ∧ lo < 20)) ∧ Drawn ms ∧ 0 ≤ a ∧ a < 3000 ∧ a ≤ b ∧ b < a + 400 := by
  unfold spec_Known.f
  obtain ⟨sl, j, m, lg, lo, p1, s1, e1, r1, r2, r3, r4, r5, q1, q2⟩ := rules_ok hl 0 0 (by omega) (by omega)
  obtain ⟨ms, p2, s2, e2, hm, q3, q4⟩ := marks_ok hl p1 s1 (by omega) (by omega) hk
  obtain ⟨a, p3, s3, e3, b3, c3⟩ := wide_ok hl p2 s2 (by omega) (by omega) 3000 (by omega)
  obtain ⟨b, p4, s4, e4, b4, c4⟩ := wide_ok hl p3 s3 (by omega) (by omega) 400 (by omega)
  simp only [e1, e2, e3, e4, Option.bind_some]
  rw [w64 (a := a + b) (by omega)]
  exact ⟨_, _, _, _, _, _, _, _, rfl, ⟨r1, r2, r3, r4, r5⟩, hm, by omega, by omega, by omega, by omega⟩
theorem drawn_rd {ms : List S37} (h : Drawn ms) {i : Nat} (hi : i < ms.length) : (1 ≤ (rd_T37 ms (i : Int)).f0 ∧ (rd_T37 ms (i : Int)).f0 ≤ 1000) ∧ (0 ≤ (rd_T37 ms (i : Int)).f1 ∧ (rd_T37 ms (i : Int)).f1 ≤ 6000) := by
  have e : rd_T37 ms (i : Int) = ms[i] := by simp [rd_T37, List.getD_eq_getElem?_getD, hi]
  rw [e]
  exact h.2.2 _ (List.getElem_mem hi)
theorem drawn_lt {ms : List S37} (h : Drawn ms) {i j : Nat} (hij : i < j) (hj : j < ms.length) : (rd_T37 ms (i : Int)).f1 < (rd_T37 ms (j : Int)).f1 ∧ (rd_T37 ms (j : Int)).f0 < (rd_T37 ms (i : Int)).f0 := by
  have ei : rd_T37 ms (i : Int) = ms[i]'(by omega) := by simp [rd_T37, List.getD_eq_getElem?_getD, show i < ms.length by omega]
  have ej : rd_T37 ms (j : Int) = ms[j] := by simp [rd_T37, List.getD_eq_getElem?_getD, hj]
  rw [ei, ej]
  exact List.pairwise_iff_getElem.1 h.2.1 i j (by omega) hj hij
theorem drawn_marks {ms : List S37} (h : Drawn ms) : marksB ms = true := by
  have hlen := h.1
  unfold marksB
  rw [decide_eq_true (by omega), Bool.true_and, List.all_eq_true]
  intro i hi
  rw [List.mem_range] at hi
  have hr := drawn_rd h hi
  unfold okAt
  have hh : hadB ms i (rd_T37 ms (i : Int)).f0 = false := by
    unfold hadB
    rw [List.any_eq_false]
    intro j hj
    rw [List.mem_range] at hj
    have := (drawn_lt h hj hi).2
    simp only [beq_iff_eq]
    omega
  rw [hh, decide_eq_true (show 1 ≤ (rd_T37 ms (i : Int)).f0 ∧ (rd_T37 ms (i : Int)).f0 ≤ 1000000000 by omega), decide_eq_true (show 0 ≤ (rd_T37 ms (i : Int)).f1 ∧ (rd_T37 ms (i : Int)).f1 ≤ 100000000 by omega)]
  by_cases h0 : i = 0
  · rw [decide_eq_true h0]
    rfl
  · have hp := (drawn_lt h (i := i - 1) (j := i) (by omega) hi).1
    rw [show ((i - 1 : Nat) : Int) = (i : Int) - 1 by omega] at hp
    rw [decide_eq_true hp]
    simp
theorem impl_Room_eq {s j m l o lo hi x y z at_ : Int} (hr : okR s j m l o) (hb : okB lo hi) (ha : -100000000 ≤ at_ ∧ at_ ≤ 100000000) : impl_Room.f s j m l o true lo hi x y z at_ = some (if hi > at_ then -1 else at_ - hi) := by
  simp only [impl_Room.f, impl_told_eq, impl_in_eq, Option.bind_some, decide_eq_true_eq]
  rw [if_pos ⟨hr, trivial, hb⟩, if_pos ha, w64 (a := at_ - hi) (by omega)]
  split <;> rfl
theorem nextV_spec (a : Int) : ∀ (xs : List S37) (i : Nat), (nextV a xs i = -1 ∧ ∀ (t : Nat) (ht : t < xs.length), xs[t].f1 ≤ a) ∨ (∃ j : Nat, ∃ hj : j < xs.length, nextV a xs i = ((i + j : Nat) : Int) ∧ a < xs[j].f1 ∧ ∀ (t : Nat) (ht : t < j), (xs[t]'(by omega)).f1 ≤ a)
  | [], i => .inl ⟨rfl, fun t ht => absurd ht (by simp)⟩
  | x :: r, i => by
    simp only [nextV]
    by_cases h : a < x.f1
    · rw [if_pos h]
      exact .inr ⟨0, by simp, by simp, h, fun t ht => absurd ht (by omega)⟩
    · rw [if_neg h]
      rcases nextV_spec a r (i + 1) with ⟨e, hall⟩ | ⟨j, hj, e, hlt, hall⟩
      · refine .inl ⟨e, fun t ht => ?_⟩
        match t, ht with
        | 0, _ => exact Int.not_lt.1 h
        | t + 1, ht => exact hall t (by simpa using ht)
      · refine .inr ⟨j + 1, by simpa using hj, by rw [e]; omega, hlt, fun t ht => ?_⟩
        match t, ht with
        | 0, _ => exact Int.not_lt.1 h
        | t + 1, ht => exact hall t (by omega)
theorem room_loop (ms : List S37) (hn : ms.length ≤ 100) (K a : Int) (kn : Bool) (b c e f : Int) (hA : ∀ i : Nat, i < ms.length → (K < 0 ∨ (i : Int) < K) → ¬ (rd_T37 ms (i : Int)).f1 > a) (hB : ∀ i : Nat, i < ms.length → (i : Int) = K → ¬ (rd_T37 ms (i : Int)).f1 ≤ a) (d : Nat) :
    ∀ (k i : Nat), i + d = ms.length → d < k → laws_FnRoom.l0 k ms K ms (ms.length : Int) (i : Int) kn a b c e f = some (decide (K < (ms.length : Int))) := by
  induction d with
  | zero =>
    intro k i hi hk
    obtain ⟨k, rfl⟩ : ∃ m, k = m + 1 := ⟨k - 1, by omega⟩
    simp only [laws_FnRoom.l0]
    rw [if_neg (by omega)]
  | succ d ih =>
    intro k i hi hk
    obtain ⟨k, rfl⟩ : ∃ m, k = m + 1 := ⟨k - 1, by omega⟩
    simp only [laws_FnRoom.l0]
    have hA' := hA i (by omega)
    have hB' := hB i (by omega)
    have hr := ih k (i + 1) (by omega) (by omega)
    rw [show ((i + 1 : Nat) : Int) = (i : Int) + 1 by omega] at hr
    rw [if_pos (by omega), if_pos (by omega), if_pos (by omega), w64 (a := (i : Int) + 1) (by omega), hr]
    by_cases h1 : K < 0
    · rw [if_pos h1, if_neg (hA' (.inl h1)), if_neg (show ¬ (i : Int) = K by omega)]
    · rw [if_neg h1]
      by_cases h2 : (i : Int) < K
      · rw [if_pos h2, if_neg (hA' (.inr h2)), if_neg (show ¬ (i : Int) = K by omega)]
      · rw [if_neg h2]
        by_cases h3 : (i : Int) = K
        · rw [if_pos h3, if_neg (hB' h3)]
        · rw [if_neg h3]
theorem FnRoom (l0 l1 : List Int) (_ : l0.length * 1 ≤ 140737488351232) (h0 : ∀ x ∈ l0, (Lit.int .u8 x).wf = true) (_ : l1.length * 1 ≤ 140737488351232) (h1 : ∀ x ∈ l1, (Lit.int .u8 x).wf = true) : ∃ k, laws_FnRoom.f k l0 l1 = some true := by
  refine ⟨1000, ?_⟩
  have hj0 : ∀ b, laws_FnRoom.j0 1000 l0 l1 b = some true := by
    intro b
    simp only [laws_FnRoom.j0]
    cases b with
    | true => rfl
    | false =>
      rw [if_neg (by decide)]
      obtain ⟨s, j, m, lg, lo, ms, a, b, e, ⟨r1, r2, r3, r4, r5⟩, hm, b1, b2, b3, b4⟩ := known_ok h0 (k := 999) (by omega)
      obtain ⟨v, y0, z0⟩ := wByte_ok h1 0 (by omega)
      have hr : okR s j m lg lo := by omega
      have hb : okB a b := by omega
      simp only [e, y0, Option.bind_some]
      rw [w64 (a := v * 4) (by omega), w64 (a := a + v * 4) (by omega), w64 (a := a + v * 4 - 200) (by omega)]
      obtain ⟨p, hp⟩ : ∃ p, p = a + v * 4 - 200 := ⟨_, rfl⟩
      rw [← hp, impl_Room_eq hr hb (by omega)]
      simp only [Option.bind_some]
      have hlen := hm.1
      have hj1 : laws_FnRoom.j1 999 ms false true a b 0 (-1) 0 = some true := by
        simp only [laws_FnRoom.j1]
        rw [if_neg (by decide), impl_Next_eq ms (by omega) true a b 0 (-1) 0 (by omega), if_pos ⟨drawn_marks hm, rfl, hb⟩]
        simp only [Option.bind_some]
        have hs := nextV_spec a ms 0
        have hl := room_loop ms (by omega) (nextV a ms 0) a true b 0 (-1) 0 (fun i hi hK => by
          rw [rd_Mark ms i hi]
          rcases hs with ⟨_, hall⟩ | ⟨t, ht, e2, _, hall⟩
          · exact Int.not_lt.2 (hall i hi)
          · exact Int.not_lt.2 (hall i (by omega))) (fun i hi hK => by
          rw [rd_Mark ms i hi]
          rcases hs with ⟨e2, _⟩ | ⟨t, ht, e2, hlt, _⟩
          · omega
          · obtain rfl : i = t := by omega
            exact Int.not_le.2 hlt) ms.length 998 0 (by omega) (by omega)
        rw [show ((0 : Nat) : Int) = 0 from rfl] at hl
        rw [hl, decide_eq_true]
        rcases hs with ⟨e2, _⟩ | ⟨t, ht, e2, hlt, _⟩ <;> omega
      by_cases h2 : p < b
      · rw [if_pos h2, if_pos (show b > p from h2), if_pos rfl, if_neg (by omega)]
        exact hj1
      · rw [if_neg h2, if_neg (show ¬ b > p from h2), if_pos (by omega), w64 (a := p - b) (by omega)]
        simp only [bne_self_eq_false]
        exact hj1
  unfold laws_FnRoom.f
  split <;> exact hj0 _
end Go.Proofs.Ytommdabkkgcgbaa.Pure
