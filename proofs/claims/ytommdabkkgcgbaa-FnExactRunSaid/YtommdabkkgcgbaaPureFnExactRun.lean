/- The plain law of laws.FnExactRun: what the printed functions compute answers true at every input, in plain Lean, without Go and memory. Its conditions: each number is an int64, each slice takes fewer than 2^47 bytes. -/
import Derived.Test.YtommdabkkgcgbaaQFnExactRunx14
namespace Go.Proofs.Ytommdabkkgcgbaa.Pure
open Go.RowKit Go.Proofs.Ytommdabkkgcgbaa.QFnExactRun Go.Proofs.YtommdabkkgcgbaaW.PrintWords Go.Proofs.YtommdabkkgcgbaaW.PrintLast Go.Proofs.YtommdabkkgcgbaaW.PrintMore
set_option linter.unusedVariables false
set_option linter.unusedSimpArgs false
theorem sd {p : Prop} [Decidable p] {b : Bool} (h : b = true ↔ p) : some b = some (decide p) := by
  cases b <;> simp_all
abbrev okR (s j m l o : Int) : Prop := 0 ≤ s ∧ s ≤ 500 ∧ 0 ≤ j ∧ j ≤ 1000 ∧ 0 ≤ m ∧ m ≤ 10000 ∧ 1 ≤ l ∧ l ≤ 1000000 ∧ 0 ≤ o ∧ o ≤ 10000
abbrev okB (a b : Int) : Prop := -100000000 ≤ a ∧ a ≤ b ∧ b ≤ 100000000
abbrev okE (op n : Int) : Prop := (op = 1 ∧ 0 ≤ n ∧ n ≤ 100000) ∨ (op = 2 ∧ 1 ≤ n ∧ n ≤ 1000000000) ∨ ((op = 3 ∨ op = 4) ∧ n = 0)
theorem wf64 {a : Int} (h : (Lit.int .i64 a).wf = true) : -9223372036854775808 ≤ a ∧ a ≤ 9223372036854775807 := by
  have h' := h
  simp [Lit.wf, IntKind.min, IntKind.max, IntKind.signed, IntKind.bits] at h'
  omega
theorem spec_l1in_eq (x a b : Int) : spec_l1in.f x a b = some (decide (a ≤ x ∧ x ≤ b)) := by
  unfold spec_l1in.f
  split <;> (apply sd; simp only [decide_eq_true_eq, Bool.false_eq_true, false_iff]; omega)
theorem impl_in_eq (x a b : Int) : impl_in.f x a b = some (decide (a ≤ x ∧ x ≤ b)) := by
  unfold impl_in.f
  split <;> (apply sd; simp only [decide_eq_true_eq, Bool.false_eq_true, false_iff]; omega)
theorem spec_BoundOk_eq (a b : Int) : spec_BoundOk.f a b = some (decide (okB a b)) := by
  simp only [spec_BoundOk.f, spec_l1in_eq, Option.bind_some, decide_eq_true_eq]
  split <;> (apply sd; simp only [decide_eq_true_eq, Bool.false_eq_true, false_iff]; omega)
theorem impl_BoundOk_eq (a b : Int) : impl_BoundOk.f a b = some (decide (okB a b)) := by
  simp only [impl_BoundOk.f, impl_in_eq, Option.bind_some, decide_eq_true_eq]
  split <;> (apply sd; simp only [decide_eq_true_eq, Bool.false_eq_true, false_iff]; omega)
theorem spec_RulesOk_eq (s j m l o : Int) : spec_RulesOk.f s j m l o = some (decide (okR s j m l o)) := by
  simp only [spec_RulesOk.f, spec_l1in_eq, Option.bind_some, decide_eq_true_eq]
  (repeat' split) <;> (apply sd; simp only [decide_eq_true_eq, Bool.false_eq_true, false_iff]; omega)
theorem impl_RulesOk_eq (s j m l o : Int) : impl_RulesOk.f s j m l o = some (decide (okR s j m l o)) := by
  simp only [impl_RulesOk.f, impl_in_eq, Option.bind_some, decide_eq_true_eq]
  (repeat' split) <;> (apply sd; simp only [decide_eq_true_eq, Bool.false_eq_true, false_iff]; omega)
theorem spec_EventOk_eq (op n : Int) : spec_EventOk.f op n = some (decide (okE op n)) := by
  simp only [spec_EventOk.f, spec_l1in_eq, Option.bind_some]
  (repeat' split) <;> (apply sd; simp only [decide_eq_true_eq, beq_iff_eq, Bool.false_eq_true, false_iff]; omega)
theorem impl_EventOk_eq (op n : Int) : impl_EventOk.f op n = some (decide (okE op n)) := by
  simp only [impl_EventOk.f, impl_in_eq, Option.bind_some]
  (repeat' split) <;> (apply sd; simp only [decide_eq_true_eq, beq_iff_eq, Bool.false_eq_true, false_iff]; omega)
theorem spec_Meets_eq (a b c d : Int) : spec_Meets.f a b c d = some (decide (a ≤ d ∧ c ≤ b)) := by
  unfold spec_Meets.f
  split <;> (apply sd; simp only [decide_eq_true_eq, Bool.false_eq_true, false_iff]; omega)
theorem impl_Meets_eq (a b c d : Int) : impl_Meets.f a b c d = some (decide (a ≤ d ∧ c ≤ b)) := by
  unfold impl_Meets.f
  split <;> (apply sd; simp only [decide_eq_true_eq, Bool.false_eq_true, false_iff]; omega)
theorem laws_eqBound_eq (a b c d : Int) : laws_eqBound.f a b c d = some (decide (a = c ∧ b = d)) := by
  unfold laws_eqBound.f
  (repeat' split) <;> (apply sd; simp only [Bool.false_eq_true, false_iff, true_iff]; omega)
theorem spec_Both_eq (a b c d : Int) : spec_Both.f a b c d = some (if a ≤ d ∧ c ≤ b then (max a c, min b d) else (0, 0)) := by
  simp only [spec_Both.f, spec_Meets_eq, Option.bind_some, decide_eq_true_eq]
  (repeat' split) <;> simp only [Option.some.injEq, Prod.mk.injEq] <;> omega
theorem impl_Both_eq (a b c d : Int) : impl_Both.f a b c d = some (if a ≤ d ∧ c ≤ b then (max a c, min b d) else (0, 0)) := by
  simp only [impl_Both.f, impl_Meets_eq, Option.bind_some, decide_eq_true_eq]
  unfold mx mn
  (repeat' split) <;> simp only [Option.some.injEq, Prod.mk.injEq] <;> omega
theorem w64 {a : Int} (h : -9223372036854775808 ≤ a ∧ a ≤ 9223372036854775807) : wrap64 a = a := by unfold wrap64; omega
/-- The least and the most that wheels can have come, in closed form. -/
def lst (s j c : Int) : Int := if 0 < c - j then (1000 * (c - j) + 999 + s) / (1000 + s) else 0
def mst (s j c : Int) : Int := 1000 * (c + j) / (1000 - s)
def stay (x : Int) : Int := max (-100000000) (min x 100000000)
theorem lst_le_iff {s j c x : Int} (hs : 0 ≤ s) (hx : 0 ≤ x) : lst s j c ≤ x ↔ 1000 * (c - j) ≤ 1000 * x + s * x := by
  have hp : 0 ≤ s * x := Int.mul_nonneg hs hx
  unfold lst
  split
  · rw [← Int.lt_add_one_iff, Int.ediv_lt_iff_lt_mul (by omega)]
    have e : (x + 1) * (1000 + s) = 1000 * x + s * x + 1000 + s := by
      rw [Int.add_mul, Int.mul_add, Int.mul_comm x 1000, Int.mul_comm x s]; omega
    rw [e]
    omega
  · constructor
    · intro _; omega
    · intro _; exact hx
theorem lst_nonneg {s j c : Int} (hs : 0 ≤ s) : 0 ≤ lst s j c := by
  unfold lst
  split
  · exact Int.ediv_nonneg (by omega) (by omega)
  · omega
theorem le_mst_iff {s j c x : Int} (hs : s ≤ 500) : x ≤ mst s j c ↔ 1000 * x - s * x ≤ 1000 * (c + j) := by
  unfold mst
  rw [Int.le_ediv_iff_mul_le (by omega)]
  have e : x * (1000 - s) = 1000 * x - s * x := by rw [Int.mul_sub, Int.mul_comm x 1000, Int.mul_comm x s]
  rw [e]
theorem mst_le {s j c : Int} (h0 : 0 ≤ s) (hs : s ≤ 500) (hj : 0 ≤ j ∧ j ≤ 1000) (hc : 0 ≤ c ∧ c ≤ 100000) : mst s j c ≤ 202000 := by
  unfold mst
  rw [← Int.lt_add_one_iff, Int.ediv_lt_iff_lt_mul (by omega)]
  omega
theorem lst_le {s j c : Int} (h0 : 0 ≤ s) (hj : 0 ≤ j) (hc : 0 ≤ c) : lst s j c ≤ c := by
  have hp : 0 ≤ s * c := Int.mul_nonneg h0 hc
  rw [lst_le_iff h0 hc]; omega
theorem le_mst {s j c : Int} (h0 : 0 ≤ s) (hs : s ≤ 500) (hj : 0 ≤ j) (hc : 0 ≤ c) : c ≤ mst s j c := by
  have hp : 0 ≤ s * c := Int.mul_nonneg h0 hc
  rw [le_mst_iff hs]; omega
theorem sx_bd {s x : Int} (h0 : 0 ≤ s) (hs : s ≤ 500) (hx : 0 ≤ x) (hx2 : x ≤ 300000) : 0 ≤ s * x ∧ s * x ≤ 150000000 := by
  refine ⟨Int.mul_nonneg h0 hx, ?_⟩
  have := Int.mul_le_mul hs hx2 hx (by omega)
  omega
abbrev fairP (s j x c : Int) : Prop := 1000 * (x - c) ≤ s * x + 1000 * j ∧ 1000 * (c - x) ≤ s * x + 1000 * j
theorem spec_l1fair_eq {s j m l o x c : Int} (h0 : 0 ≤ s) (hs : s ≤ 500) (hj : 0 ≤ j ∧ j ≤ 1000) (hx : 0 ≤ x) (hx2 : x ≤ 300000) (hc : 0 ≤ c ∧ c ≤ 100000) :
    spec_l1fair.f s j m l o x c = some (decide (fairP s j x c)) := by
  have hp := sx_bd h0 hs hx hx2
  unfold spec_l1fair.f fairP
  generalize s * x = p at hp ⊢
  rw [w64 (a := x - c) (by omega), w64 (a := -(x - c)) (by omega), w64 (a := 1000 * -(x - c)) (by omega), w64 (a := 1000 * (x - c)) (by omega), w64 (a := p) (by omega), w64 (a := 1000 * j) (by omega), w64 (a := p + 1000 * j) (by omega)]
  split <;> (apply sd; simp only [decide_eq_true_eq]; omega)
theorem spec_l1least_loop {s j m l o c : Int} (h0 : 0 ≤ s) (hs : s ≤ 500) (hj : 0 ≤ j ∧ j ≤ 1000) (hc : 0 ≤ c ∧ c ≤ 100000) (d : Nat) :
    ∀ (k : Nat) (far : Int), far = lst s j c - 1 + d → far + 1 ≤ c → d < k → spec_l1least.l0 k c (far + 1) far s j m l o = some (lst s j c) := by
  have hn := lst_nonneg (s := s) (j := j) (c := c) h0
  induction d with
  | zero =>
    intro k far hf hle hk
    obtain ⟨k, rfl⟩ : ∃ m, k = m + 1 := ⟨k - 1, by omega⟩
    simp only [spec_l1least.l0]
    split
    · rw [spec_l1fair_eq h0 hs hj (by omega) (by omega) hc]
      have hp := sx_bd h0 hs (x := far) (by omega) (by omega)
      have hnot : ¬ lst s j c ≤ far := by omega
      rw [lst_le_iff h0 (by omega)] at hnot
      simp only [Option.bind_some]
      rw [decide_eq_false (by unfold fairP; omega), if_neg (by decide)]
      congr 1; omega
    · congr 1; omega
  | succ d ih =>
    intro k far hf hle hk
    obtain ⟨k, rfl⟩ : ∃ m, k = m + 1 := ⟨k - 1, by omega⟩
    simp only [spec_l1least.l0]
    have h1 : far ≥ 0 := by omega
    rw [if_pos h1, spec_l1fair_eq h0 hs hj (by omega) (by omega) hc]
    have hp := sx_bd h0 hs (x := far) (by omega) (by omega)
    have hyes : lst s j c ≤ far := by omega
    rw [lst_le_iff h0 (by omega)] at hyes
    simp only [Option.bind_some]
    rw [decide_eq_true (by unfold fairP; omega), if_pos rfl, w64 (a := far - 1) (by omega)]
    have := ih k (far - 1) (by omega) (by omega) (by omega)
    rwa [show far - 1 + 1 = far from by omega] at this
theorem spec_l1least_eq {s j m l o c : Int} (h0 : 0 ≤ s) (hs : s ≤ 500) (hj : 0 ≤ j ∧ j ≤ 1000) (hc : 0 ≤ c ∧ c ≤ 100000) {k : Nat} (hk : 210000 ≤ k) : spec_l1least.f k s j m l o c = some (lst s j c) := by
  have hn := lst_nonneg (s := s) (j := j) (c := c) h0
  have hle := lst_le (s := s) (j := j) (c := c) h0 hj.1 hc.1
  have hp := sx_bd h0 hs (x := c) (by omega) (by omega)
  unfold spec_l1least.f
  obtain ⟨k, rfl⟩ : ∃ m, k = m + 1 := ⟨k - 1, by omega⟩
  simp only [spec_l1least.l0]
  rw [if_pos (show c ≥ 0 by omega), spec_l1fair_eq h0 hs hj (by omega) (by omega) hc]
  simp only [Option.bind_some]
  rw [decide_eq_true (by unfold fairP; omega), if_pos rfl, w64 (a := c - 1) (by omega)]
  have := spec_l1least_loop (m := m) (l := l) (o := o) h0 hs hj hc (c - lst s j c).toNat k (c - 1) (by omega) (by omega) (by omega)
  rwa [show c - 1 + 1 = c from by omega] at this
theorem spec_l1most_loop {s j m l o c : Int} (h0 : 0 ≤ s) (hs : s ≤ 500) (hj : 0 ≤ j ∧ j ≤ 1000) (hc : 0 ≤ c ∧ c ≤ 100000) (d : Nat) :
    ∀ (k : Nat) (far : Int), far = mst s j c + 1 - d → c ≤ far - 1 → d < k → spec_l1most.l0 k c (far - 1) far s j m l o = some (mst s j c) := by
  have hm := mst_le h0 hs hj hc
  induction d with
  | zero =>
    intro k far hf hle hk
    obtain ⟨k, rfl⟩ : ∃ m, k = m + 1 := ⟨k - 1, by omega⟩
    simp only [spec_l1most.l0]
    rw [spec_l1fair_eq h0 hs hj (by omega) (by omega) hc]
    have hp := sx_bd h0 hs (x := far) (by omega) (by omega)
    have hnot : ¬ far ≤ mst s j c := by omega
    rw [le_mst_iff hs] at hnot
    simp only [Option.bind_some]
    rw [decide_eq_false (by unfold fairP; omega), if_neg (by decide)]
    congr 1; omega
  | succ d ih =>
    intro k far hf hle hk
    obtain ⟨k, rfl⟩ : ∃ m, k = m + 1 := ⟨k - 1, by omega⟩
    simp only [spec_l1most.l0]
    rw [spec_l1fair_eq h0 hs hj (by omega) (by omega) hc]
    have hp := sx_bd h0 hs (x := far) (by omega) (by omega)
    have hyes : far ≤ mst s j c := by omega
    rw [le_mst_iff hs] at hyes
    simp only [Option.bind_some]
    rw [decide_eq_true (by unfold fairP; omega), if_pos rfl, w64 (a := far + 1) (by omega)]
    have := ih k (far + 1) (by omega) (by omega) (by omega)
    rwa [show far + 1 - 1 = far from by omega] at this
theorem spec_l1most_eq {s j m l o c : Int} (h0 : 0 ≤ s) (hs : s ≤ 500) (hj : 0 ≤ j ∧ j ≤ 1000) (hc : 0 ≤ c ∧ c ≤ 100000) {k : Nat} (hk : 210000 ≤ k) : spec_l1most.f k s j m l o c = some (mst s j c) := by
  have hm := mst_le h0 hs hj hc
  have hle := le_mst (s := s) (j := j) (c := c) h0 hs hj.1 hc.1
  have hp := sx_bd h0 hs (x := c) (by omega) (by omega)
  unfold spec_l1most.f
  obtain ⟨k, rfl⟩ : ∃ m, k = m + 1 := ⟨k - 1, by omega⟩
  simp only [spec_l1most.l0]
  rw [spec_l1fair_eq h0 hs hj (by omega) (by omega) hc]
  simp only [Option.bind_some]
  rw [decide_eq_true (by unfold fairP; omega), if_pos rfl, w64 (a := c + 1) (by omega)]
  have := spec_l1most_loop (m := m) (l := l) (o := o) h0 hs hj hc (mst s j c - c).toNat k (c + 1) (by omega) (by omega) (by omega)
  rwa [show c + 1 - 1 = c from by omega] at this
theorem spec_l1clip_eq {a b : Int} (h : a ≤ b) (hb : -100000000 ≤ b) {k : Nat} (hk : 2 ≤ k) : spec_l1clip.f k a b = some (stay a, stay b) := by
  obtain ⟨k, rfl⟩ : ∃ m, k = m + 2 := ⟨k - 2, by omega⟩
  unfold spec_l1clip.f stay
  simp only [spec_l1clip.j0, spec_l1clip.j1]
  (repeat' split) <;> simp only [Option.some.injEq, Prod.mk.injEq] <;> omega
theorem impl_stay_eq (x : Int) : impl_stay.f x = some (stay x) := by
  unfold impl_stay.f stay mx mn
  congr 1
  (repeat' split) <;> omega
theorem impl_came_eq {s j m l o c : Int} (h0 : 0 ≤ s) (hs : s ≤ 500) (hj : 0 ≤ j ∧ j ≤ 1000) (hc : 0 ≤ c ∧ c ≤ 100000) : impl_came.f s j m l o c = some (lst s j c, mst s j c) := by
  have hm := mst_le h0 hs hj hc
  have hm0 := le_mst (s := s) (j := j) (c := c) h0 hs hj.1 hc.1
  have hl := lst_le (s := s) (j := j) (c := c) h0 hj.1 hc.1
  have hl0 := lst_nonneg (s := s) (j := j) (c := c) h0
  unfold impl_came.f
  rw [w64 (a := c - j) (by omega), w64 (a := c + j) (by omega), w64 (a := 1000 * (c - j)) (by omega), w64 (a := 1000 * (c + j)) (by omega), w64 (a := 1000 + s) (by omega), w64 (a := 1000 - s) (by omega), w64 (a := 1000 * (c - j) + 999) (by omega), w64 (a := 1000 * (c - j) + 999 + s) (by omega)]
  have e2 : wrap64 ((1000 * (c + j)).tdiv (1000 - s)) = mst s j c := by
    rw [Int.tdiv_eq_ediv_of_nonneg (by omega)]
    exact w64 (a := mst s j c) (by omega)
  simp only [if_neg (show ¬ 1000 - s = 0 by omega), if_neg (show ¬ 1000 + s = 0 by omega), e2]
  split
  · rename_i hpos
    have e1 : wrap64 ((1000 * (c - j) + 999 + s).tdiv (1000 + s)) = lst s j c := by
      rw [Int.tdiv_eq_ediv_of_nonneg (by omega)]
      have e : (1000 * (c - j) + 999 + s) / (1000 + s) = lst s j c := by unfold lst; rw [if_pos (by omega)]
      rw [e]
      exact w64 (by omega)
    rw [e1]
  · rename_i hneg
    have e : lst s j c = 0 := by unfold lst; rw [if_neg (by omega)]
    rw [e]
theorem spec_l1good_eq (s j m l o a b : Int) : spec_l1good.f s j m l o a b = some (decide (okR s j m l o ∧ okB a b)) := by
  simp only [spec_l1good.f, spec_RulesOk_eq, spec_BoundOk_eq, Option.bind_some, decide_eq_true_eq]
  split
  · rename_i h1
    exact congrArg some (decide_eq_decide.2 ⟨fun h => ⟨h1, h⟩, fun h => h.2⟩)
  · rename_i h1
    exact congrArg some (decide_eq_false (fun h => h1 h.1)).symm
/-- What Wheel answers. -/
def wheelV (s j m l o a b c : Int) : Int × Int := if okR s j m l o ∧ okB a b ∧ (0 ≤ c ∧ c ≤ 100000) then (stay (a + lst s j c), stay (b + mst s j c)) else (0, 0)
/-- What Read answers. -/
def readV (s j m l o a b x : Int) : Int × Int :=
  if okR s j m l o ∧ okB a b ∧ (0 ≤ x ∧ x ≤ 100000000) then
    (if a ≤ stay (x + m) ∧ stay (x - m) ≤ b then (max a (stay (x - m)), min b (stay (x + m))) else (min a (stay (x - m)), max b (stay (x + m)))) else (0, 0)
theorem spec_Wheel_eq (s j m l o a b c : Int) {k : Nat} (hk : 220000 ≤ k) : spec_Wheel.f k s j m l o a b c = some (wheelV s j m l o a b c) := by
  obtain ⟨k, rfl⟩ : ∃ m, k = m + 1 := ⟨k - 1, by omega⟩
  simp only [spec_Wheel.f, spec_l1good_eq, spec_l1in_eq, Option.bind_some, decide_eq_true_eq, spec_Wheel.j0, wheelV]
  by_cases h1 : okR s j m l o ∧ okB a b
  · rw [if_pos h1]
    by_cases h2 : 0 ≤ c ∧ c ≤ 100000
    · obtain ⟨hr, hb⟩ := h1
      rw [if_pos (show okR s j m l o ∧ okB a b ∧ (0 ≤ c ∧ c ≤ 100000) from ⟨hr, hb, h2⟩), decide_eq_true h2]
      have hl := lst_le (s := s) (j := j) (c := c) (by omega) (by omega) h2.1
      have hl0 := lst_nonneg (s := s) (j := j) (c := c) (by omega)
      have hm := mst_le (s := s) (j := j) (c := c) (by omega) (by omega) (by omega) h2
      have hm0 := le_mst (s := s) (j := j) (c := c) (by omega) (by omega) (by omega) h2.1
      rw [if_neg (by decide), spec_l1least_eq (by omega) (by omega) (by omega) h2 (by omega), spec_l1most_eq (by omega) (by omega) (by omega) h2 (by omega)]
      simp only [Option.bind_some]
      rw [w64 (a := a + lst s j c) (by omega), w64 (a := b + mst s j c) (by omega), spec_l1clip_eq (by omega) (by omega) (by omega)]
      rfl
    · rw [if_neg (show ¬ (okR s j m l o ∧ okB a b ∧ (0 ≤ c ∧ c ≤ 100000)) from fun h => h2 h.2.2), decide_eq_false h2]
      rfl
  · rw [if_neg h1, if_neg (show ¬ (okR s j m l o ∧ okB a b ∧ (0 ≤ c ∧ c ≤ 100000)) from fun h => h1 ⟨h.1, h.2.1⟩)]
    rfl
theorem impl_Wheel_eq (s j m l o a b c : Int) {k : Nat} (hk : 1 ≤ k) : impl_Wheel.f k s j m l o a b c = some (wheelV s j m l o a b c) := by
  obtain ⟨k, rfl⟩ : ∃ m, k = m + 1 := ⟨k - 1, by omega⟩
  simp only [impl_Wheel.f, impl_RulesOk_eq, impl_BoundOk_eq, impl_in_eq, impl_stay_eq, Option.bind_some, decide_eq_true_eq, impl_Wheel.j0, wheelV]
  by_cases hr : okR s j m l o
  · rw [if_pos hr]
    by_cases hb : okB a b
    · rw [if_pos hb]
      by_cases h2 : 0 ≤ c ∧ c ≤ 100000
      · rw [if_pos (show okR s j m l o ∧ okB a b ∧ (0 ≤ c ∧ c ≤ 100000) from ⟨hr, hb, h2⟩), decide_eq_true h2]
        have hl := lst_le (s := s) (j := j) (c := c) (by omega) (by omega) h2.1
        have hl0 := lst_nonneg (s := s) (j := j) (c := c) (by omega)
        have hm := mst_le (s := s) (j := j) (c := c) (by omega) (by omega) (by omega) h2
        have hm0 := le_mst (s := s) (j := j) (c := c) (by omega) (by omega) (by omega) h2.1
        rw [if_neg (by decide), impl_came_eq (by omega) (by omega) (by omega) h2]
        simp only [Option.bind_some]
        rw [w64 (a := a + lst s j c) (by omega), w64 (a := b + mst s j c) (by omega)]
      · rw [if_neg (show ¬ (okR s j m l o ∧ okB a b ∧ (0 ≤ c ∧ c ≤ 100000)) from fun h => h2 h.2.2), decide_eq_false h2]
        rfl
    · rw [if_neg hb, if_neg (show ¬ (okR s j m l o ∧ okB a b ∧ (0 ≤ c ∧ c ≤ 100000)) from fun h => hb h.2.1)]
      rfl
  · rw [if_neg hr, if_neg (show ¬ (okR s j m l o ∧ okB a b ∧ (0 ≤ c ∧ c ≤ 100000)) from fun h => hr h.1)]
    rfl
theorem impl_own_eq {s j m l o x : Int} (hm : 0 ≤ m ∧ m ≤ 10000) (hx : 0 ≤ x ∧ x ≤ 100000000) : impl_own.f s j m l o x = some (stay (x - m), stay (x + m)) := by
  simp only [impl_own.f, impl_stay_eq, Option.bind_some]
  rw [w64 (a := x - m) (by omega), w64 (a := x + m) (by omega)]
theorem impl_Read_eq (s j m l o a b x : Int) {k : Nat} (hk : 1 ≤ k) : impl_Read.f k s j m l o a b x = some (readV s j m l o a b x) := by
  obtain ⟨k, rfl⟩ : ∃ m, k = m + 1 := ⟨k - 1, by omega⟩
  simp only [impl_Read.f, impl_RulesOk_eq, impl_BoundOk_eq, impl_in_eq, Option.bind_some, decide_eq_true_eq, impl_Read.j0, readV]
  by_cases hr : okR s j m l o
  · rw [if_pos hr]
    by_cases hb : okB a b
    · rw [if_pos hb]
      by_cases h2 : 0 ≤ x ∧ x ≤ 100000000
      · rw [if_pos (show okR s j m l o ∧ okB a b ∧ (0 ≤ x ∧ x ≤ 100000000) from ⟨hr, hb, h2⟩), decide_eq_true h2]
        rw [if_neg (by decide), impl_own_eq (by omega) h2]
        simp only [Option.bind_some, impl_Meets_eq, impl_Both_eq, decide_eq_true_eq]
        unfold mx mn
        by_cases hmt : a ≤ stay (x + m) ∧ stay (x - m) ≤ b
        · rw [if_pos (show stay (x - m) ≤ b ∧ a ≤ stay (x + m) from ⟨hmt.2, hmt.1⟩), if_pos hmt]
          simp only [Option.bind_some, hmt, and_self, if_true, Option.some.injEq, Prod.mk.injEq]
          omega
        · rw [if_neg (show ¬ (stay (x - m) ≤ b ∧ a ≤ stay (x + m)) from fun h => hmt ⟨h.2, h.1⟩), if_neg hmt]
          simp only [Option.some.injEq, Prod.mk.injEq]
          (repeat' split) <;> omega
      · rw [if_neg (show ¬ (okR s j m l o ∧ okB a b ∧ (0 ≤ x ∧ x ≤ 100000000)) from fun h => h2 h.2.2), decide_eq_false h2]
        rfl
    · rw [if_neg hb, if_neg (show ¬ (okR s j m l o ∧ okB a b ∧ (0 ≤ x ∧ x ≤ 100000000)) from fun h => hb h.2.1)]
      rfl
  · rw [if_neg hr, if_neg (show ¬ (okR s j m l o ∧ okB a b ∧ (0 ≤ x ∧ x ≤ 100000000)) from fun h => hr h.1)]
    rfl
theorem spec_Read_eq (s j m l o a b x : Int) {k : Nat} (hk : 3 ≤ k) : spec_Read.f k s j m l o a b x = some (readV s j m l o a b x) := by
  obtain ⟨k, rfl⟩ : ∃ m, k = m + 1 := ⟨k - 1, by omega⟩
  simp only [spec_Read.f, spec_l1good_eq, spec_l1in_eq, Option.bind_some, decide_eq_true_eq, spec_Read.j0, readV]
  by_cases h1 : okR s j m l o ∧ okB a b
  · rw [if_pos h1]
    by_cases h2 : 0 ≤ x ∧ x ≤ 100000000
    · obtain ⟨hr, hb⟩ := h1
      rw [if_pos (show okR s j m l o ∧ okB a b ∧ (0 ≤ x ∧ x ≤ 100000000) from ⟨hr, hb, h2⟩), decide_eq_true h2]
      rw [if_neg (by decide), w64 (a := x - m) (by omega), w64 (a := x + m) (by omega), spec_l1clip_eq (by omega) (by omega) (by omega)]
      simp only [Option.bind_some, spec_Meets_eq, spec_Both_eq, decide_eq_true_eq]
      by_cases hmt : a ≤ stay (x + m) ∧ stay (x - m) ≤ b
      · rw [if_pos hmt, if_pos hmt]
        simp only [Option.bind_some, hmt, and_self, if_true]
      · rw [if_neg hmt, if_neg hmt]
        (repeat' split) <;> simp only [Option.some.injEq, Prod.mk.injEq] <;> omega
    · rw [if_neg (show ¬ (okR s j m l o ∧ okB a b ∧ (0 ≤ x ∧ x ≤ 100000000)) from fun h => h2 h.2.2), decide_eq_false h2]
      rfl
  · rw [if_neg h1, if_neg (show ¬ (okR s j m l o ∧ okB a b ∧ (0 ≤ x ∧ x ≤ 100000000)) from fun h => h1 ⟨h.1, h.2.1⟩)]
    rfl
theorem rd_Mark (xs : List S37) (i : Nat) (h : i < xs.length) : rd_T37 xs (i : Int) = xs[i] := by
  simp [rd_T37, List.getD_eq_getElem?_getD, h]
theorem rd_Event (xs : List S34) (i : Nat) (h : i < xs.length) : rd_T34 xs (i : Int) = xs[i] := by
  simp [rd_T34, List.getD_eq_getElem?_getD, h]
theorem rd_State (xs : List S29) (i : Nat) (h : i < xs.length) : rd_T29 xs (i : Int) = xs[i] := by
  simp [rd_T29, List.getD_eq_getElem?_getD, h]
theorem rdl_Mark (xs : List S106) (i : Nat) (h : i < xs.length) : rd_T106 xs (i : Int) = xs[i] := by
  simp [rd_T106, List.getD_eq_getElem?_getD, h]
/-- The copy of an element. -/
def cMark (x : S106) : S37 := ⟨x.f0, x.f1⟩
theorem toMarkS_loop (l : List S106) (hn : l.length ≤ 9000000000000000) (d : Nat) : ∀ (k i : Nat), i + d = l.length → d < k → laws_toMarkS.l0 k l ((l.take i).map cMark ++ List.replicate d z37) (i : Int) = some (l.map cMark) := by
  induction d with
  | zero =>
    intro k i hi hk
    obtain ⟨k, rfl⟩ : ∃ m, k = m + 1 := ⟨k - 1, by omega⟩
    simp only [laws_toMarkS.l0]
    rw [if_neg (by omega), List.take_of_length_le (by omega)]
    simp
  | succ d ih =>
    intro k i hi hk
    obtain ⟨k, rfl⟩ : ∃ m, k = m + 1 := ⟨k - 1, by omega⟩
    simp only [laws_toMarkS.l0]
    rw [if_pos (by omega), if_pos (by omega), rdl_Mark l i (by omega)]
    simp only [laws_toMark.f, Option.bind_some]
    have hlen : ((l.take i).map cMark).length = i := by simp; omega
    rw [if_pos (by simp; omega), w64 (a := (i : Int) + 1) (by omega)]
    have e : ((l.take i).map cMark ++ List.replicate (d + 1) z37).set ((i : Int)).toNat ⟨l[i].f0, l[i].f1⟩ = (l.take (i + 1)).map cMark ++ List.replicate d z37 := by
      rw [List.set_append, Int.toNat_natCast, if_neg (by omega), hlen, Nat.sub_self, List.replicate_succ, List.set_cons_zero, List.take_succ_eq_append_getElem (by omega), List.map_append, List.append_assoc]
      rfl
    rw [e]
    exact ih k (i + 1) (by omega) (by omega)
theorem toMarkS_eq (l : List S106) (hn : l.length ≤ 1048576) {k : Nat} (hk : l.length < k) : laws_toMarkS.f k l = some (l.map cMark) := by
  unfold laws_toMarkS.f
  rw [if_pos (by omega), if_pos (by omega), Int.toNat_natCast]
  exact toMarkS_loop l (by omega) l.length k 0 (by omega) hk
theorem rdl_Event (xs : List S44) (i : Nat) (h : i < xs.length) : rd_T44 xs (i : Int) = xs[i] := by
  simp [rd_T44, List.getD_eq_getElem?_getD, h]
/-- The copy of an element. -/
def cEvent (x : S44) : S34 := ⟨x.f0, x.f1⟩
theorem toEventS_loop (l : List S44) (hn : l.length ≤ 9000000000000000) (d : Nat) : ∀ (k i : Nat), i + d = l.length → d < k → laws_toEventS.l0 k l ((l.take i).map cEvent ++ List.replicate d z34) (i : Int) = some (l.map cEvent) := by
  induction d with
  | zero =>
    intro k i hi hk
    obtain ⟨k, rfl⟩ : ∃ m, k = m + 1 := ⟨k - 1, by omega⟩
    simp only [laws_toEventS.l0]
    rw [if_neg (by omega), List.take_of_length_le (by omega)]
    simp
  | succ d ih =>
    intro k i hi hk
    obtain ⟨k, rfl⟩ : ∃ m, k = m + 1 := ⟨k - 1, by omega⟩
    simp only [laws_toEventS.l0]
    rw [if_pos (by omega), if_pos (by omega), rdl_Event l i (by omega)]
    simp only [laws_toEvent.f, Option.bind_some]
    have hlen : ((l.take i).map cEvent).length = i := by simp; omega
    rw [if_pos (by simp; omega), w64 (a := (i : Int) + 1) (by omega)]
    have e : ((l.take i).map cEvent ++ List.replicate (d + 1) z34).set ((i : Int)).toNat ⟨l[i].f0, l[i].f1⟩ = (l.take (i + 1)).map cEvent ++ List.replicate d z34 := by
      rw [List.set_append, Int.toNat_natCast, if_neg (by omega), hlen, Nat.sub_self, List.replicate_succ, List.set_cons_zero, List.take_succ_eq_append_getElem (by omega), List.map_append, List.append_assoc]
      rfl
    rw [e]
    exact ih k (i + 1) (by omega) (by omega)
theorem toEventS_eq (l : List S44) (hn : l.length ≤ 1048576) {k : Nat} (hk : l.length < k) : laws_toEventS.f k l = some (l.map cEvent) := by
  unfold laws_toEventS.f
  rw [if_pos (by omega), if_pos (by omega), Int.toNat_natCast]
  exact toEventS_loop l (by omega) l.length k 0 (by omega) hk
theorem eqMarkS_loop (l : List S37) (hn : l.length ≤ 9000000000000000) (d : Nat) : ∀ (k i : Nat), i + d = l.length → d < k → laws_eqMarkS.l0 k l l (i : Int) = some true := by
  induction d with
  | zero =>
    intro k i hi hk
    obtain ⟨k, rfl⟩ : ∃ m, k = m + 1 := ⟨k - 1, by omega⟩
    simp only [laws_eqMarkS.l0]
    rw [if_neg (by omega)]
  | succ d ih =>
    intro k i hi hk
    obtain ⟨k, rfl⟩ : ∃ m, k = m + 1 := ⟨k - 1, by omega⟩
    simp only [laws_eqMarkS.l0]
    rw [if_pos (by omega), if_pos (by omega), if_pos (by omega), w64 (a := (i : Int) + 1) (by omega)]
    simp only [laws_eqMark.f, if_true, Option.bind_some]
    exact ih k (i + 1) (by omega) (by omega)
theorem eqMarkS_refl (l : List S37) (hn : l.length ≤ 9000000000000000) {k : Nat} (hk : l.length < k) : laws_eqMarkS.f k l l = some true := by
  unfold laws_eqMarkS.f
  rw [if_pos rfl]
  exact eqMarkS_loop l hn l.length k 0 (by omega) hk
theorem eqEventS_loop (l : List S34) (hn : l.length ≤ 9000000000000000) (d : Nat) : ∀ (k i : Nat), i + d = l.length → d < k → laws_eqEventS.l0 k l l (i : Int) = some true := by
  induction d with
  | zero =>
    intro k i hi hk
    obtain ⟨k, rfl⟩ : ∃ m, k = m + 1 := ⟨k - 1, by omega⟩
    simp only [laws_eqEventS.l0]
    rw [if_neg (by omega)]
  | succ d ih =>
    intro k i hi hk
    obtain ⟨k, rfl⟩ : ∃ m, k = m + 1 := ⟨k - 1, by omega⟩
    simp only [laws_eqEventS.l0]
    rw [if_pos (by omega), if_pos (by omega), if_pos (by omega), w64 (a := (i : Int) + 1) (by omega)]
    simp only [laws_eqEvent.f, if_true, Option.bind_some]
    exact ih k (i + 1) (by omega) (by omega)
theorem eqEventS_refl (l : List S34) (hn : l.length ≤ 9000000000000000) {k : Nat} (hk : l.length < k) : laws_eqEventS.f k l l = some true := by
  unfold laws_eqEventS.f
  rw [if_pos rfl]
  exact eqEventS_loop l hn l.length k 0 (by omega) hk
theorem szMarkS_eq (l : List S106) (hn : l.length ≤ 9000000000000000) (a : Int) (ha : 0 ≤ a ∧ a ≤ 1048576) : laws_szMarkS.f l a = some (if (l.length : Int) ≤ a then a - l.length else -1) := by
  unfold laws_szMarkS.f
  rw [w64 (a := a - (l.length : Int)) (by omega)]
  (repeat' split) <;> first | rfl | omega
theorem szEventS_eq (l : List S44) (hn : l.length ≤ 9000000000000000) (a : Int) (ha : 0 ≤ a ∧ a ≤ 1048576) : laws_szEventS.f l a = some (if (l.length : Int) ≤ a then a - l.length else -1) := by
  unfold laws_szEventS.f
  rw [w64 (a := a - (l.length : Int)) (by omega)]
  (repeat' split) <;> first | rfl | omega
theorem impl_MarksOk_eq (l : List S37) : impl_MarksOk.f l = some (marksB l) := rfl
theorem marksB_false {l : List S37} {i : Nat} (hi : i < l.length) (h : okAt l i = false) : marksB l = false := by
  unfold marksB
  rw [Bool.and_eq_false_iff]
  right
  rw [List.all_eq_false]
  exact ⟨i, List.mem_range.2 hi, by rw [h]; decide⟩
theorem okAt_of {l : List S37} (h : marksB l = true) {i : Nat} (hi : i < l.length) : okAt l i = true := by
  unfold marksB at h
  rw [Bool.and_eq_true, List.all_eq_true] at h
  exact h.2 i (List.mem_range.2 hi)
theorem marks_len {l : List S37} (h : marksB l = true) : l.length ≤ 100 := by
  unfold marksB at h
  rw [Bool.and_eq_true] at h
  exact of_decide_eq_true h.1
theorem okAt_range {l : List S37} {i : Nat} (h : okAt l i = true) : (1 ≤ (rd_T37 l (i : Int)).f0 ∧ (rd_T37 l (i : Int)).f0 ≤ 1000000000) ∧ (0 ≤ (rd_T37 l (i : Int)).f1 ∧ (rd_T37 l (i : Int)).f1 ≤ 100000000) := by
  unfold okAt at h
  simp only [Bool.and_eq_true, decide_eq_true_eq] at h
  exact ⟨h.1.1.1, h.1.2⟩
theorem spec_MarksOk_inner (l : List S37) (hn : l.length ≤ 9000000000000) (i : Nat) (hi : i < l.length) (M : Nat) (R : Bool) (x y : Int) (hR : ∀ k, M ≤ k → spec_MarksOk.l0 k l l (l.length : Int) ((i : Int) + 1) = some R) (e : Nat) :
    ∀ (k j : Nat), j + e = i → hadB l j x = false → M + e + 1 ≤ k → spec_MarksOk.l1 k l (i : Int) (j : Int) l (l.length : Int) (i : Int) x y = some (if hadB l i x = true then false else R) := by
  induction e with
  | zero =>
    intro k j hj hh hk
    obtain ⟨k, rfl⟩ : ∃ m, k = m + 1 := ⟨k - 1, by omega⟩
    obtain rfl : j = i := by omega
    simp only [spec_MarksOk.l1]
    rw [if_neg (by omega), w64 (a := (j : Int) + 1) (by omega), hR k (by omega), hh]
    rfl
  | succ e ih =>
    intro k j hj hh hk
    obtain ⟨k, rfl⟩ : ∃ m, k = m + 1 := ⟨k - 1, by omega⟩
    simp only [spec_MarksOk.l1]
    rw [if_pos (by omega), if_pos (by omega), if_pos (by omega), w64 (a := (j : Int) + 1) (by omega)]
    by_cases h : (rd_T37 l (j : Int)).f0 = x
    · rw [if_pos h]
      have : hadB l i x = true := by
        unfold hadB
        rw [List.any_eq_true]
        exact ⟨j, List.mem_range.2 (by omega), by rw [h]; simp⟩
      rw [this]
      rfl
    · rw [if_neg h]
      refine ih k (j + 1) (by omega) ?_ (by omega)
      rw [hadB_succ, hh]
      simp [h]
theorem spec_MarksOk_loop (l : List S37) (hn : l.length ≤ 9000000000000) (d : Nat) :
    ∀ (k i : Nat), i + d = l.length → d * (l.length + 3) + 1 ≤ k → (∀ j, j < i → okAt l j = true) → spec_MarksOk.l0 k l l (l.length : Int) (i : Int) = some (marksB l) := by
  induction d with
  | zero =>
    intro k i hi hk hok
    obtain ⟨k, rfl⟩ : ∃ m, k = m + 1 := ⟨k - 1, by omega⟩
    simp only [spec_MarksOk.l0]
    rw [if_neg (by omega)]
    unfold marksB
    have : (List.range l.length).all (okAt l) = true := by
      rw [List.all_eq_true]
      intro j hj
      exact hok j (by have := List.mem_range.1 hj; omega)
    rw [this, Bool.and_true]
    exact congrArg some (decide_eq_decide.2 (by omega))
  | succ d ih =>
    intro k i hi hk hok
    rw [Nat.succ_mul] at hk
    generalize hq : d * (l.length + 3) = q at hk ih
    obtain ⟨k, rfl⟩ : ∃ m, k = m + 2 := ⟨k - 2, by omega⟩
    have hil : i < l.length := by omega
    have fin : ∀ (b : Bool), (b = true → okAt l i = false) → (b = false → (decide (1 ≤ (rd_T37 l (i : Int)).f0 ∧ (rd_T37 l (i : Int)).f0 ≤ 1000000000) && decide (0 ≤ (rd_T37 l (i : Int)).f1 ∧ (rd_T37 l (i : Int)).f1 ≤ 100000000) && (decide (i = 0) || decide ((rd_T37 l ((i : Int) - 1)).f1 < (rd_T37 l (i : Int)).f1))) = true) →
        spec_MarksOk.j1 (k + 1) l (i : Int) l (l.length : Int) (i : Int) b (rd_T37 l (i : Int)).f0 (rd_T37 l (i : Int)).f1 = some (marksB l) := by
      intro b h1 h2
      simp only [spec_MarksOk.j1]
      cases b with
      | true => rw [if_pos rfl, marksB_false hil (h1 rfl)]
      | false =>
        rw [if_neg (by decide)]
        have hb := h2 rfl
        by_cases hh : hadB l i (rd_T37 l (i : Int)).f0 = true
        · have hm : marksB l = false := marksB_false hil (by unfold okAt; rw [hh]; simp)
          have := spec_MarksOk_inner l hn i hil k false (rd_T37 l (i : Int)).f0 (rd_T37 l (i : Int)).f1
          clear this
          -- a name that was had: the inner loop ends in false, whatever comes behind
          have ends : ∀ (e k' j : Nat), j + e = i → hadB l j (rd_T37 l (i : Int)).f0 = false → e + 1 ≤ k' → spec_MarksOk.l1 k' l (i : Int) (j : Int) l (l.length : Int) (i : Int) (rd_T37 l (i : Int)).f0 (rd_T37 l (i : Int)).f1 = some false := by
            intro e
            induction e with
            | zero =>
              intro k' j hj hnot _
              obtain rfl : j = i := by omega
              rw [hh] at hnot
              cases hnot
            | succ e ihe =>
              intro k' j hj hnot hk'
              obtain ⟨k', rfl⟩ : ∃ m, k' = m + 1 := ⟨k' - 1, by omega⟩
              simp only [spec_MarksOk.l1]
              rw [if_pos (by omega), if_pos (by omega), if_pos (by omega), w64 (a := (j : Int) + 1) (by omega)]
              by_cases h : (rd_T37 l (j : Int)).f0 = (rd_T37 l (i : Int)).f0
              · rw [if_pos h]
              · rw [if_neg h]
                refine ihe k' (j + 1) (by omega) ?_ (by omega)
                rw [hadB_succ, hnot]
                simp [h]
          rw [hm]
          exact ends i k 0 (by omega) (by simp [hadB]) (by omega)
        · have hh' : hadB l i (rd_T37 l (i : Int)).f0 = false := by simpa using hh
          have hok' : okAt l i = true := by
            unfold okAt
            rw [hh']
            simp only [Bool.and_eq_true] at hb ⊢
            exact ⟨⟨⟨hb.1.1, rfl⟩, hb.1.2⟩, hb.2⟩
          have := spec_MarksOk_inner l hn i hil (q + 1) (marksB l) (rd_T37 l (i : Int)).f0 (rd_T37 l (i : Int)).f1 (fun k' hk' => by
            have := ih k' (i + 1) (by omega) (by omega) (fun j hj => by
              rcases Nat.lt_or_ge j i with h | h
              · exact hok j h
              · obtain rfl : j = i := by omega
                exact hok')
            rwa [show ((i + 1 : Nat) : Int) = (i : Int) + 1 by omega] at this) i k 0 (by omega) (by simp [hadB]) (by omega)
          rw [hh', if_neg (by decide)] at this
          exact this
    simp only [spec_MarksOk.l0, spec_l1in_eq, Option.bind_some]
    rw [if_pos (by omega), if_pos (by omega), if_pos (by omega)]
    by_cases hat : 0 ≤ (rd_T37 l (i : Int)).f1 ∧ (rd_T37 l (i : Int)).f1 ≤ 100000000
    · rw [decide_eq_true hat, if_pos rfl]
      by_cases h0 : (i : Int) > 0
      · rw [if_pos h0, w64 (a := (i : Int) - 1) (by omega), if_pos (by omega), if_pos (by omega)]
        by_cases hp : (rd_T37 l (i : Int)).f1 ≤ (rd_T37 l ((i : Int) - 1)).f1
        · rw [if_pos hp]
          exact fin true (fun _ => by unfold okAt; rw [decide_eq_false (show ¬ i = 0 by omega), decide_eq_false (show ¬ (rd_T37 l ((i : Int) - 1)).f1 < (rd_T37 l (i : Int)).f1 by omega)]; simp) (fun h => by cases h)
        · rw [if_neg hp]
          refine fin _ (fun h => ?_) (fun h => ?_)
          · unfold okAt
            rw [show decide (1 ≤ (rd_T37 l (i : Int)).f0 ∧ (rd_T37 l (i : Int)).f0 ≤ 1000000000) = false by simpa only [Bool.not_eq_true'] using h]
            rfl
          · rw [decide_eq_true (show 1 ≤ (rd_T37 l (i : Int)).f0 ∧ (rd_T37 l (i : Int)).f0 ≤ 1000000000 by simpa using h), decide_eq_true hat, decide_eq_true (show (rd_T37 l ((i : Int) - 1)).f1 < (rd_T37 l (i : Int)).f1 by omega)]
            simp
      · rw [if_neg h0]
        refine fin _ (fun h => ?_) (fun h => ?_)
        · unfold okAt
          rw [show decide (1 ≤ (rd_T37 l (i : Int)).f0 ∧ (rd_T37 l (i : Int)).f0 ≤ 1000000000) = false by simpa only [Bool.not_eq_true'] using h]
          rfl
        · rw [decide_eq_true (show 1 ≤ (rd_T37 l (i : Int)).f0 ∧ (rd_T37 l (i : Int)).f0 ≤ 1000000000 by simpa using h), decide_eq_true hat, decide_eq_true (show i = 0 by omega)]
          rfl
    · rw [decide_eq_false hat, if_neg (by decide)]
      exact fin true (fun _ => by unfold okAt; rw [decide_eq_false hat]; simp) (fun h => by cases h)
theorem spec_MarksOk_eq (l : List S37) (hn : l.length ≤ 9000000000000) {k : Nat} (hk : l.length * (l.length + 3) + 1 ≤ k) : spec_MarksOk.f k l = some (marksB l) := by
  unfold spec_MarksOk.f
  exact spec_MarksOk_loop l hn l.length k 0 (by omega) hk (fun j hj => by omega)
/-- The rounds that suffice for a list of n marks. -/
def Kn (n : Nat) : Nat := n * (n + 3) + 2 * n + 300000
def stateB (l : List S37) (k : Bool) (a b since last odd : Int) : Bool :=
  marksB l && decide (-1 ≤ last ∧ last ≤ (l.length : Int) - 1) && decide (0 ≤ since ∧ since ≤ 1000000000) && decide (0 ≤ odd ∧ odd ≤ 1000000000) && (if k = true then decide (okB a b) else decide (a = 0 ∧ b = 0 ∧ last = -1))
theorem spec_StateOk_eq (l : List S37) (hn : l.length ≤ 9000000000000) (k : Bool) (a b since last odd : Int) {n : Nat} (hk : l.length * (l.length + 3) + 1 ≤ n) : spec_StateOk.f n l k a b since last odd = some (stateB l k a b since last odd) := by
  simp only [spec_StateOk.f, spec_MarksOk_eq l hn hk, spec_l1in_eq, Option.bind_some]
  obtain ⟨n, rfl⟩ : ∃ m, n = m + 1 := ⟨n - 1, by omega⟩
  simp only [spec_StateOk.j0, spec_BoundOk_eq, Option.bind_some, stateB]
  rw [w64 (a := (l.length : Int) - 1) (by omega)]
  cases marksB l with
  | false => rfl
  | true =>
    rw [if_pos rfl, Bool.true_and]
    by_cases h1 : -1 ≤ last ∧ last ≤ (l.length : Int) - 1
    · rw [decide_eq_true h1, if_pos rfl, Bool.true_and]
      by_cases h2 : 0 ≤ since ∧ since ≤ 1000000000
      · rw [decide_eq_true h2, if_pos rfl, Bool.true_and]
        by_cases h3 : 0 ≤ odd ∧ odd ≤ 1000000000
        · rw [decide_eq_true h3, Bool.true_and]
          cases k with
          | true => rfl
          | false =>
            simp only [Bool.not_true, Bool.false_eq_true, if_false]
            by_cases h5 : a = 0
            · by_cases h6 : b = 0
              · rw [if_pos h5, if_pos h6]
                apply sd
                simp only [beq_iff_eq]
                omega
              · rw [if_pos h5, if_neg h6, decide_eq_false (fun h => h6 h.2.1)]
            · rw [if_neg h5, decide_eq_false (fun h => h5 h.1)]
        · rw [decide_eq_false h3]; rfl
      · rw [decide_eq_false h2]; rfl
    · rw [decide_eq_false h1]; rfl
theorem markMarkS_loop (d : Nat) : ∀ (k i : Nat) (l : List S37) (a : Int), i + d = l.length → d < k → l.length ≤ 9000000000000 → 0 ≤ a → a ≤ 30000000000000 + 2 * i → ∃ l', laws_markMarkS.l0 k l a (i : Int) = some (a + 2 * d, l') := by
  induction d with
  | zero =>
    intro k i l a hi hk hn h0 h1
    obtain ⟨k, rfl⟩ : ∃ m, k = m + 1 := ⟨k - 1, by omega⟩
    simp only [laws_markMarkS.l0]
    rw [if_neg (by omega)]
    exact ⟨l, by simp⟩
  | succ d ih =>
    intro k i l a hi hk hn h0 h1
    obtain ⟨k, rfl⟩ : ∃ m, k = m + 1 := ⟨k - 1, by omega⟩
    simp only [laws_markMarkS.l0, Option.bind_some]
    rw [if_pos (by omega), if_pos (by omega), w64 (a := a + 1) (by omega), w64 (a := a + 1 + 1) (by omega), w64 (a := (i : Int) + 1) (by omega)]
    generalize hL : ((l.set ((i : Int)).toNat ⟨a, (rd_T37 l (i : Int)).f1⟩).set ((i : Int)).toNat ⟨(rd_T37 (l.set ((i : Int)).toNat ⟨a, (rd_T37 l (i : Int)).f1⟩) (i : Int)).f0, a + 1⟩) = L
    have hLl : L.length = l.length := by rw [← hL]; simp
    obtain ⟨l', h⟩ := ih k (i + 1) L (a + 1 + 1) (by omega) (by omega) (by omega) (by omega) (by omega)
    rw [show ((i + 1 : Nat) : Int) = (i : Int) + 1 by omega] at h
    exact ⟨l', by rw [h]; congr 2; omega⟩
/-- What a mark that was found, the i-th, at x, makes of a state. -/
def hitV (s j m l o x i : Int) (kn : Bool) (a b odd : Int) : Bool × Int × Int × Int × Int × Int :=
  if kn = true then (true, (readV s j m l o a b x).1, (readV s j m l o a b x).2, 0, i, if a ≤ stay (x + m) ∧ stay (x - m) ≤ b then odd else mn (odd + 1) 1000000000)
  else (true, stay (x - m), stay (x + m), 0, i, odd)
/-- What an event makes of a state. -/
def doV (s j m l o : Int) (ms : List S37) (kn : Bool) (a b since last odd op n : Int) : Bool × Int × Int × Int × Int × Int :=
  if op = 1 then (if kn = true then (kn, (wheelV s j m l o a b n).1, (wheelV s j m l o a b n).2, mn (since + n) 1000000000, last, odd) else (kn, a, b, mn (since + n) 1000000000, last, odd))
  else if op = 2 then (match ms.findIdx? (fun x => x.f0 == n) with | some i => hitV s j m l o (rd_T37 ms (i : Int)).f1 i kn a b odd | none => (kn, a, b, since, last, mn (odd + 1) 1000000000))
  else if op = 4 then (false, 0, 0, 0, -1, odd) else (kn, a, b, since, last, odd)
theorem rdMk (xs : List S37) (i : Nat) (h : i < xs.length) : rd_T37 xs (i : Int) = xs[i] := by
  simp [rd_T37, List.getD_eq_getElem?_getD, h]
theorem find_some (ms : List S37) (n : Int) (i : Nat) (hi : i < ms.length) (h : (rd_T37 ms (i : Int)).f0 = n) (hb : ∀ j : Nat, j < i → (rd_T37 ms (j : Int)).f0 ≠ n) : ms.findIdx? (fun x => x.f0 == n) = some i := by
  rw [List.findIdx?_eq_some_iff_getElem]
  refine ⟨hi, by rw [rdMk ms i hi] at h; simpa using h, fun j hj => ?_⟩
  have := hb j hj
  rw [rdMk ms j (by omega)] at this
  simpa using this
theorem find_none (ms : List S37) (n : Int) (hb : ∀ j : Nat, j < ms.length → (rd_T37 ms (j : Int)).f0 ≠ n) : ms.findIdx? (fun x => x.f0 == n) = none := by
  rw [List.findIdx?_eq_none_iff]
  intro x hx
  obtain ⟨j, hj, rfl⟩ := List.getElem_of_mem hx
  have := hb j hj
  rw [rdMk ms j hj] at this
  simpa using this
theorem find_lt (ms : List S37) (n : Int) (i : Nat) (h : ms.findIdx? (fun x => x.f0 == n) = some i) : i < ms.length ∧ (rd_T37 ms (i : Int)).f0 = n := by
  rw [List.findIdx?_eq_some_iff_getElem] at h
  obtain ⟨hi, h1, _⟩ := h
  exact ⟨hi, by rw [rdMk ms i hi]; simpa using h1⟩
theorem marks_ne {ms : List S37} (h : marksB ms = true) {i j : Nat} (hij : i < j) (hj : j < ms.length) : (rd_T37 ms (i : Int)).f0 ≠ (rd_T37 ms (j : Int)).f0 := by
  have hk := okAt_of h hj
  unfold okAt at hk
  simp only [Bool.and_eq_true] at hk
  have hh : hadB ms j (rd_T37 ms (j : Int)).f0 = false := by simpa using hk.1.1.2
  unfold hadB at hh
  rw [List.any_eq_false] at hh
  have := hh i (List.mem_range.2 hij)
  simpa using this
theorem impl_do_loop {s j m l o : Int} (hm : 0 ≤ m ∧ m ≤ 10000) (ms : List S37) (hms : marksB ms = true) (kn : Bool) (a b since last odd op n : Int) (ho : 0 ≤ odd ∧ odd ≤ 1000000000) (hop : op = 2) (d : Nat) :
    ∀ (k i : Nat), i + d = ms.length → d + 1 < k → (∀ j : Nat, j < i → (rd_T37 ms (j : Int)).f0 ≠ n) → impl_do.l0 k ms (ms.length : Int) (i : Int) s j m l o kn a b since last odd op n = some (doV s j m l o ms kn a b since last odd op n) := by
  have hml := marks_len hms
  induction d with
  | zero =>
    intro k i hi hk hb
    obtain ⟨k, rfl⟩ : ∃ q, k = q + 1 := ⟨k - 1, by omega⟩
    simp only [impl_do.l0]
    rw [if_neg (by omega), w64 (a := odd + 1) (by omega)]
    unfold doV
    rw [if_neg (by omega), if_pos hop, find_none ms n (fun j hj => hb j (by omega))]
  | succ d ih =>
    intro k i hi hk hb
    obtain ⟨k, rfl⟩ : ∃ q, k = q + 1 := ⟨k - 1, by omega⟩
    have hil : i < ms.length := by omega
    have hx := (okAt_range (okAt_of hms hil)).2
    simp only [impl_do.l0]
    rw [if_pos (by omega), if_pos (by omega), if_pos (by omega), w64 (a := (i : Int) + 1) (by omega), w64 (a := odd + 1) (by omega)]
    by_cases h : (rd_T37 ms (i : Int)).f0 = n
    · rw [if_pos h, impl_own_eq hm hx]
      unfold doV
      rw [if_neg (show ¬ op = 1 by omega), if_pos hop, find_some ms n i hil h hb]
      simp only [Option.bind_some, impl_Meets_eq, impl_Read_eq s j m l o a b _ (show 1 ≤ k by omega), decide_eq_true_eq, hitV]
      cases kn with
      | false => rfl
      | true =>
        rw [if_pos rfl, if_pos rfl]
        by_cases h2 : a ≤ stay ((rd_T37 ms (i : Int)).f1 + m) ∧ stay ((rd_T37 ms (i : Int)).f1 - m) ≤ b
        · rw [if_pos ⟨h2.2, h2.1⟩, if_pos h2]
        · rw [if_neg (fun q => h2 ⟨q.2, q.1⟩), if_neg h2]
    · rw [if_neg h]
      have := ih k (i + 1) (by omega) (by omega) (fun j hj => by
        rcases Nat.lt_or_ge j i with q | q
        · exact hb j q
        · obtain rfl : j = i := by omega
          exact h)
      rwa [show ((i + 1 : Nat) : Int) = (i : Int) + 1 by omega] at this
theorem impl_do_eq {s j m l o : Int} (hm : 0 ≤ m ∧ m ≤ 10000) (ms : List S37) (hms : marksB ms = true) (kn : Bool) (a b since last odd op n : Int) (hs : 0 ≤ since ∧ since ≤ 1000000000) (ho : 0 ≤ odd ∧ odd ≤ 1000000000) (he : okE op n) {k : Nat} (hk : 102 ≤ k) :
    impl_do.f k s j m l o ms kn a b since last odd op n = some (doV s j m l o ms kn a b since last odd op n) := by
  have hml := marks_len hms
  unfold impl_do.f
  by_cases h1 : op = 1
  · rw [if_pos h1, w64 (a := since + n) (by omega), impl_Wheel_eq s j m l o a b n (show 1 ≤ k by omega)]
    unfold doV
    rw [if_pos h1]
    cases kn <;> rfl
  · rw [if_neg h1]
    by_cases h2 : op = 2
    · rw [if_pos h2]
      exact impl_do_loop hm ms hms kn a b since last odd op n ho h2 ms.length k 0 (by omega) (by omega) (fun j hj => absurd hj (by omega))
    · rw [if_neg h2]
      unfold doV
      rw [if_neg h1, if_neg h2]
      split <;> rfl
theorem stateB_of {ms : List S37} {kn : Bool} {a b since last odd : Int} (h : stateB ms kn a b since last odd = true) :
    marksB ms = true ∧ (-1 ≤ last ∧ last ≤ (ms.length : Int) - 1) ∧ (0 ≤ since ∧ since ≤ 1000000000) ∧ (0 ≤ odd ∧ odd ≤ 1000000000) ∧ (kn = true → okB a b) ∧ (kn = false → a = 0 ∧ b = 0 ∧ last = -1) := by
  unfold stateB at h
  simp only [Bool.and_eq_true, decide_eq_true_eq] at h
  obtain ⟨⟨⟨⟨h1, h2⟩, h3⟩, h4⟩, h5⟩ := h
  refine ⟨h1, h2, h3, h4, fun q => ?_, fun q => ?_⟩
  · subst q
    exact of_decide_eq_true h5
  · subst q
    exact of_decide_eq_true h5
theorem stateB_mk {ms : List S37} {kn : Bool} {a b since last odd : Int} (h1 : marksB ms = true) (h2 : -1 ≤ last ∧ last ≤ (ms.length : Int) - 1) (h3 : 0 ≤ since ∧ since ≤ 1000000000) (h4 : 0 ≤ odd ∧ odd ≤ 1000000000) (h5 : kn = true → okB a b) (h6 : kn = false → a = 0 ∧ b = 0 ∧ last = -1) : stateB ms kn a b since last odd = true := by
  unfold stateB
  rw [h1, decide_eq_true h2, decide_eq_true h3, decide_eq_true h4]
  cases kn with
  | true => rw [if_pos rfl, decide_eq_true (h5 rfl)]; rfl
  | false => rw [if_neg (by decide), decide_eq_true (h6 rfl)]; rfl
theorem wheel_okB {s j m l o a b c : Int} (hr : okR s j m l o) (hb : okB a b) (hc : 0 ≤ c ∧ c ≤ 100000) : okB (wheelV s j m l o a b c).1 (wheelV s j m l o a b c).2 := by
  have hl := lst_le (s := s) (j := j) (c := c) (by omega) (by omega) hc.1
  have hl0 := lst_nonneg (s := s) (j := j) (c := c) (by omega)
  have hm0 := le_mst (s := s) (j := j) (c := c) (by omega) (by omega) (by omega) hc.1
  unfold wheelV
  rw [if_pos ⟨hr, hb, hc⟩]
  dsimp only [okB, stay]
  omega
theorem read_okB {s j m l o a b x : Int} (hr : okR s j m l o) (hb : okB a b) (hx : 0 ≤ x ∧ x ≤ 100000000) : okB (readV s j m l o a b x).1 (readV s j m l o a b x).2 := by
  unfold readV
  rw [if_pos ⟨hr, hb, hx⟩]
  split
  · rename_i h
    simp only [stay] at h
    dsimp only [okB, stay]
    omega
  · dsimp only [okB, stay]
    omega
theorem mn_rg {a : Int} (h : 0 ≤ a ∧ a ≤ 2000000000) : 0 ≤ mn a 1000000000 ∧ mn a 1000000000 ≤ 1000000000 := by
  unfold mn
  split <;> omega
/-- A right state stays one. -/
theorem do_state {s j m l o : Int} (hr : okR s j m l o) {ms : List S37} {kn : Bool} {a b since last odd op n : Int} (h : stateB ms kn a b since last odd = true) (he : okE op n) :
    stateB ms (doV s j m l o ms kn a b since last odd op n).1 (doV s j m l o ms kn a b since last odd op n).2.1 (doV s j m l o ms kn a b since last odd op n).2.2.1 (doV s j m l o ms kn a b since last odd op n).2.2.2.1 (doV s j m l o ms kn a b since last odd op n).2.2.2.2.1 (doV s j m l o ms kn a b since last odd op n).2.2.2.2.2 = true := by
  obtain ⟨h1, h2, h3, h4, h5, h6⟩ := stateB_of h
  unfold doV
  by_cases e1 : op = 1
  · rw [if_pos e1]
    split
    · rename_i hk
      exact stateB_mk h1 h2 (mn_rg (by omega)) h4 (fun _ => wheel_okB hr (h5 hk) (by omega)) (fun q => by rw [hk] at q; cases q)
    · rename_i hk
      exact stateB_mk h1 h2 (mn_rg (by omega)) h4 (fun q => absurd q hk) h6
  · rw [if_neg e1]
    by_cases e2 : op = 2
    · rw [if_pos e2]
      split
      · rename_i i hf
        have hi := (find_lt ms n i hf).1
        have hx := (okAt_range (okAt_of h1 hi)).2
        unfold hitV
        split
        · rename_i hk
          refine stateB_mk h1 (by dsimp only; omega) (by dsimp only; omega) ?_ (fun _ => read_okB hr (h5 hk) hx) (fun q => by cases q)
          dsimp only
          split
          · exact h4
          · exact mn_rg (by omega)
        · exact stateB_mk h1 (by dsimp only; omega) (by dsimp only; omega) h4 (fun _ => by dsimp only [okB, stay]; omega) (fun q => by cases q)
      · exact stateB_mk h1 h2 h3 (mn_rg (by omega)) h5 h6
    · rw [if_neg e2]
      split
      · exact stateB_mk h1 (by dsimp only; omega) (by dsimp only; omega) h4 (fun q => by cases q) (fun _ => ⟨rfl, rfl, rfl⟩)
      · exact h
theorem spec_l2least_eq (a b : Int) : spec_l2least.f a b = some (mn a b) := by
  unfold spec_l2least.f mn
  split <;> rfl
theorem spec_Do_tail {s j m l o : Int} (hr : okR s j m l o) (ms : List S37) (hms : marksB ms = true) (kn : Bool) (a b since last odd op n : Int) (ho : 0 ≤ odd ∧ odd ≤ 1000000000) (i0 : Nat) (hi0 : i0 < ms.length) (hn : (rd_T37 ms (i0 : Int)).f0 = n) (d : Nat) :
    ∀ (k i : Nat), i + d = ms.length → i0 < i → d + 5 ≤ k → spec_Do.l0 k ms (i0 : Int) ms (ms.length : Int) (i : Int) s j m l o kn a b since last odd op n = some (hitV s j m l o (rd_T37 ms (i0 : Int)).f1 (i0 : Int) kn a b odd) := by
  have hml := marks_len hms
  induction d with
  | zero =>
    intro k i hi hii hk
    obtain ⟨k, rfl⟩ : ∃ q, k = q + 1 := ⟨k - 1, by omega⟩
    have hx := (okAt_range (okAt_of hms hi0)).2
    simp only [spec_Do.l0]
    rw [if_neg (by omega), if_neg (by omega), if_pos (by omega), if_pos (by omega)]
    generalize (rd_T37 ms (i0 : Int)).f1 = x at hx
    rw [w64 (a := x - m) (by omega), w64 (a := x + m) (by omega), w64 (a := odd + 1) (by omega), spec_l1clip_eq (by omega) (by omega) (by omega)]
    simp only [Option.bind_some, spec_Meets_eq, spec_Read_eq s j m l o a b x (show 3 ≤ k by omega), spec_l2least_eq, decide_eq_true_eq, hitV]
    cases kn with
    | false => rfl
    | true =>
      rw [if_pos rfl, if_pos rfl]
      split <;> rfl
  | succ d ih =>
    intro k i hi hii hk
    obtain ⟨k, rfl⟩ : ∃ q, k = q + 1 := ⟨k - 1, by omega⟩
    simp only [spec_Do.l0]
    have hne := marks_ne hms hii (show i < ms.length by omega)
    rw [hn] at hne
    rw [if_pos (by omega), if_pos (by omega), if_pos (by omega), w64 (a := (i : Int) + 1) (by omega), if_neg (fun h => hne h.symm)]
    have := ih k (i + 1) (by omega) (by omega) (by omega)
    rwa [show ((i + 1 : Nat) : Int) = (i : Int) + 1 by omega] at this
theorem spec_Do_loop {s j m l o : Int} (hr : okR s j m l o) (ms : List S37) (hms : marksB ms = true) (kn : Bool) (a b since last odd op n : Int) (ho : 0 ≤ odd ∧ odd ≤ 1000000000) (hop : op = 2) (d : Nat) :
    ∀ (k i : Nat), i + d = ms.length → d + 5 ≤ k → (∀ j : Nat, j < i → (rd_T37 ms (j : Int)).f0 ≠ n) → spec_Do.l0 k ms (-1) ms (ms.length : Int) (i : Int) s j m l o kn a b since last odd op n = some (doV s j m l o ms kn a b since last odd op n) := by
  have hml := marks_len hms
  induction d with
  | zero =>
    intro k i hi hk hb
    obtain ⟨k, rfl⟩ : ∃ q, k = q + 1 := ⟨k - 1, by omega⟩
    simp only [spec_Do.l0]
    rw [if_neg (by omega), if_pos (by omega), w64 (a := odd + 1) (by omega), spec_l2least_eq]
    unfold doV
    rw [if_neg (by omega), if_pos hop, find_none ms n (fun j hj => hb j (by omega))]
    rfl
  | succ d ih =>
    intro k i hi hk hb
    obtain ⟨k, rfl⟩ : ∃ q, k = q + 1 := ⟨k - 1, by omega⟩
    have hil : i < ms.length := by omega
    simp only [spec_Do.l0]
    rw [if_pos (by omega), if_pos (by omega), if_pos (by omega), w64 (a := (i : Int) + 1) (by omega)]
    by_cases h : (rd_T37 ms (i : Int)).f0 = n
    · rw [if_pos h]
      have := spec_Do_tail hr ms hms kn a b since last odd op n ho i hil h d k (i + 1) (by omega) (by omega) (by omega)
      rw [show ((i + 1 : Nat) : Int) = (i : Int) + 1 by omega] at this
      rw [this]
      unfold doV
      rw [if_neg (show ¬ op = 1 by omega), if_pos hop, find_some ms n i hil h hb]
    · rw [if_neg h]
      have := ih k (i + 1) (by omega) (by omega) (fun j hj => by
        rcases Nat.lt_or_ge j i with q | q
        · exact hb j q
        · obtain rfl : j = i := by omega
          exact h)
      rwa [show ((i + 1 : Nat) : Int) = (i : Int) + 1 by omega] at this
theorem spec_Do_eq (s j m l o : Int) (ms : List S37) (hn : ms.length ≤ 9000000000000) (kn : Bool) (a b since last odd op n : Int) {k : Nat} (hk : ms.length * (ms.length + 3) + 300000 ≤ k) :
    spec_Do.f k s j m l o ms kn a b since last odd op n = some (if okR s j m l o ∧ stateB ms kn a b since last odd = true ∧ okE op n then doV s j m l o ms kn a b since last odd op n else (false, 0, 0, 0, 0, 0)) := by
  simp only [spec_Do.f, spec_RulesOk_eq, spec_StateOk_eq ms hn _ _ _ _ _ _ (show ms.length * (ms.length + 3) + 1 ≤ k by omega), spec_EventOk_eq, Option.bind_some, decide_eq_true_eq]
  obtain ⟨k, rfl⟩ : ∃ q, k = q + 1 := ⟨k - 1, by omega⟩
  simp only [spec_Do.j0]
  by_cases hr : okR s j m l o
  · rw [if_pos hr]
    by_cases hst : stateB ms kn a b since last odd = true
    · rw [if_pos hst]
      by_cases he : okE op n
      · have hq := stateB_of hst
        have hml := marks_len hq.1
        rw [decide_eq_true he, if_pos (show okR s j m l o ∧ stateB ms kn a b since last odd = true ∧ okE op n from ⟨hr, hst, he⟩), if_neg (by decide)]
        by_cases h1 : op = 1
        · rw [if_pos h1, w64 (a := since + n) (by omega), spec_Wheel_eq s j m l o a b n (show 220000 ≤ k by omega), spec_l2least_eq]
          unfold doV
          rw [if_pos h1]
          cases kn <;> rfl
        · rw [if_neg h1]
          by_cases h2 : op = 2
          · rw [if_pos h2]
            exact spec_Do_loop hr ms hq.1 kn a b since last odd op n hq.2.2.2.1 h2 ms.length k 0 (by omega) (by omega) (fun j hj => absurd hj (by omega))
          · rw [if_neg h2]
            unfold doV
            rw [if_neg h1, if_neg h2]
            split <;> rfl
      · rw [decide_eq_false he, if_neg (show ¬ (okR s j m l o ∧ stateB ms kn a b since last odd = true ∧ okE op n) from fun h => he h.2.2)]
        rfl
    · rw [if_neg hst, if_neg (show ¬ (okR s j m l o ∧ stateB ms kn a b since last odd = true ∧ okE op n) from fun h => hst h.2.1)]
      rfl
  · rw [if_neg hr, if_neg (show ¬ (okR s j m l o ∧ stateB ms kn a b since last odd = true ∧ okE op n) from fun h => hr h.1)]
    rfl
theorem eqState_refl (k : Bool) (a b c d e : Int) : laws_eqState.f k a b c d e k a b c d e = some true := by
  simp only [laws_eqState.f, laws_eqBound_eq, Option.bind_some]
  cases k <;> simp
abbrev St6 := Bool × Int × Int × Int × Int × Int
def stS (t : St6) : S29 := ⟨t.1, ⟨t.2.1, t.2.2.1⟩, t.2.2.2.1, t.2.2.2.2.1, t.2.2.2.2.2⟩
abbrev doT (s j m l o : Int) (ms : List S37) (t : St6) (e : S34) : St6 := doV s j m l o ms t.1 t.2.1 t.2.2.1 t.2.2.2.1 t.2.2.2.2.1 t.2.2.2.2.2 e.f0 e.f1
abbrev stT (ms : List S37) (t : St6) : Prop := stateB ms t.1 t.2.1 t.2.2.1 t.2.2.2.1 t.2.2.2.2.1 t.2.2.2.2.2 = true
/-- What Run answers, from a state on. -/
def runGo (s j m l o : Int) (ms : List S37) : St6 → List S29 → List S34 → List S29
  | _, out, [] => out
  | t, out, e :: es => if okE e.f0 e.f1 then runGo s j m l o ms (doT s j m l o ms t e) (out ++ [stS (doT s j m l o ms t e)]) es else []
def runV (s j m l o : Int) (ms : List S37) (lo hi : Int) (es : List S34) : List S29 :=
  if okR s j m l o ∧ marksB ms = true ∧ okB lo hi ∧ es.length ≤ 2000 then runGo s j m l o ms (true, lo, hi, 0, -1, 0) [] es else []
theorem rdEv (xs : List S34) (i : Nat) (h : i < xs.length) : rd_T34 xs (i : Int) = xs[i] := by
  simp [rd_T34, List.getD_eq_getElem?_getD, h]
theorem runGo_bad (s j m l o : Int) (ms : List S37) (es : List S34) : ∀ (t : St6) (out : List S29) (x : S34), x ∈ es → ¬ okE x.f0 x.f1 → runGo s j m l o ms t out es = [] := by
  induction es with
  | nil => intro t out x hx; cases hx
  | cons e es ih =>
    intro t out x hx hn
    simp only [runGo]
    by_cases h : okE e.f0 e.f1
    · rw [if_pos h]
      rcases List.mem_cons.1 hx with q | q
      · subst q
        exact absurd h hn
      · exact ih _ _ x q hn
    · rw [if_neg h]
theorem impl_Run_loop {s j m l o : Int} (hr : okR s j m l o) (ms : List S37) (es : List S34) (hes : es.length ≤ 2000) (d : Nat) :
    ∀ (k i : Nat) (t : St6) (out : List S29), i + d = es.length → d + 200 ≤ k → stT ms t → out.length ≤ i →
      impl_Run.l0 k ms out es (es.length : Int) (i : Int) s j m l o t.1 t.2.1 t.2.2.1 t.2.2.2.1 t.2.2.2.2.1 t.2.2.2.2.2 = some (runGo s j m l o ms t out (es.drop i)) := by
  induction d with
  | zero =>
    intro k i t out hi hk ht ho
    obtain ⟨k, rfl⟩ : ∃ q, k = q + 1 := ⟨k - 1, by omega⟩
    simp only [impl_Run.l0]
    rw [if_neg (by omega), List.drop_of_length_le (by omega)]
    rfl
  | succ d ih =>
    intro k i t out hi hk ht ho
    obtain ⟨k, rfl⟩ : ∃ q, k = q + 1 := ⟨k - 1, by omega⟩
    have hil : i < es.length := by omega
    simp only [impl_Run.l0, impl_EventOk_eq, Option.bind_some, decide_eq_true_eq]
    rw [if_pos (by omega), if_pos (by omega), if_pos (by omega), rdEv es i hil, w64 (a := (i : Int) + 1) (by omega), List.drop_eq_getElem_cons hil]
    simp only [runGo]
    generalize es[i] = e
    by_cases h : okE e.f0 e.f1
    · have hq := stateB_of ht
      rw [if_pos h, if_pos h, impl_do_eq (by omega) ms hq.1 _ _ _ _ _ _ _ _ hq.2.2.1 hq.2.2.2.1 h (by omega)]
      simp only [Option.bind_some]
      rw [if_pos (by omega)]
      have := ih k (i + 1) (doT s j m l o ms t e) (out ++ [stS (doT s j m l o ms t e)]) (by omega) (by omega) (do_state hr ht h) (by simp; omega)
      rwa [show ((i + 1 : Nat) : Int) = (i : Int) + 1 by omega] at this
    · rw [if_neg h, if_neg h]
theorem st0 {ms : List S37} (h : marksB ms = true) {lo hi : Int} (hb : okB lo hi) : stT ms (true, lo, hi, 0, -1, 0) := stateB_mk h (by dsimp only; omega) (by dsimp only; omega) (by dsimp only; omega) (fun _ => hb) (fun q => by cases q)
theorem impl_Run_eq (s j m l o : Int) (ms : List S37) (lo hi : Int) (es : List S34) {k : Nat} (hk : 3000 ≤ k) : impl_Run.f k s j m l o ms lo hi es = some (runV s j m l o ms lo hi es) := by
  obtain ⟨k, rfl⟩ : ∃ q, k = q + 1 := ⟨k - 1, by omega⟩
  simp only [impl_Run.f, impl_RulesOk_eq, impl_MarksOk_eq, impl_BoundOk_eq, Option.bind_some, decide_eq_true_eq, impl_Run.j0, if_true, runV]
  by_cases hr : okR s j m l o
  · rw [if_pos hr]
    by_cases hm : marksB ms = true
    · rw [if_pos hm]
      by_cases hb : okB lo hi
      · rw [if_pos hb]
        by_cases hl : es.length ≤ 2000
        · rw [if_neg (by omega), if_pos ⟨hr, hm, hb, hl⟩]
          exact impl_Run_loop hr ms es hl es.length k 0 (true, lo, hi, 0, -1, 0) [] (by omega) (by omega) (st0 hm hb) (by simp)
        · rw [if_pos (by omega), if_neg (fun h => hl h.2.2.2)]
      · rw [if_neg hb, if_neg (fun h => hb h.2.2.1)]
    · rw [if_neg hm, if_neg (fun h => hm h.2.1)]
  · rw [if_neg hr, if_neg (fun h => hr h.1)]
theorem spec_Run_l1 {s j m l o : Int} (hr : okR s j m l o) (ms : List S37) (hml : ms.length ≤ 100) (es : List S34) (hes : es.length ≤ 2000) (hall : ∀ x ∈ es, okE x.f0 x.f1) (d : Nat) :
    ∀ (k i : Nat) (t : St6) (out : List S29), i + d = es.length → d + 400000 ≤ k → stT ms t → out.length ≤ i →
      spec_Run.l1 k ms out es (es.length : Int) (i : Int) s j m l o t.1 t.2.1 t.2.2.1 t.2.2.2.1 t.2.2.2.2.1 t.2.2.2.2.2 = some (runGo s j m l o ms t out (es.drop i)) := by
  have hsq : ms.length * (ms.length + 3) ≤ 100 * 103 := Nat.mul_le_mul (by omega) (by omega)
  induction d with
  | zero =>
    intro k i t out hi hk ht ho
    obtain ⟨k, rfl⟩ : ∃ q, k = q + 1 := ⟨k - 1, by omega⟩
    simp only [spec_Run.l1]
    rw [if_neg (by omega), List.drop_of_length_le (by omega)]
    rfl
  | succ d ih =>
    intro k i t out hi hk ht ho
    obtain ⟨k, rfl⟩ : ∃ q, k = q + 1 := ⟨k - 1, by omega⟩
    have hil : i < es.length := by omega
    simp only [spec_Run.l1]
    rw [if_pos (by omega), if_pos (by omega), if_pos (by omega), rdEv es i hil, w64 (a := (i : Int) + 1) (by omega), List.drop_eq_getElem_cons hil]
    simp only [runGo]
    have h := hall es[i] (List.getElem_mem hil)
    generalize es[i] = e at h
    rw [if_pos h, spec_Do_eq s j m l o ms (by omega) _ _ _ _ _ _ _ _ (by omega), if_pos ⟨hr, ht, h⟩]
    simp only [Option.bind_some]
    rw [if_pos (by omega)]
    have := ih k (i + 1) (doT s j m l o ms t e) (out ++ [stS (doT s j m l o ms t e)]) (by omega) (by omega) (do_state hr ht h) (by simp; omega)
    rwa [show ((i + 1 : Nat) : Int) = (i : Int) + 1 by omega] at this
theorem spec_Run_l0 {s j m l o : Int} (hr : okR s j m l o) (ms : List S37) (hm : marksB ms = true) (lo hi : Int) (hb : okB lo hi) (es : List S34) (hes : es.length ≤ 2000) (d : Nat) :
    ∀ (k i : Nat), i + d = es.length → d + 500000 ≤ k → (∀ j' : Nat, ∀ h : j' < es.length, j' < i → okE es[j'].f0 es[j'].f1) →
      spec_Run.l0 k ms es es (es.length : Int) (i : Int) s j m l o lo hi = some (runGo s j m l o ms (true, lo, hi, 0, -1, 0) [] es) := by
  induction d with
  | zero =>
    intro k i hi' hk hb'
    obtain ⟨k, rfl⟩ : ∃ q, k = q + 1 := ⟨k - 1, by omega⟩
    simp only [spec_Run.l0]
    rw [if_neg (by omega)]
    exact spec_Run_l1 hr ms (marks_len hm) es hes (fun x hx => by
      obtain ⟨q, hq, rfl⟩ := List.getElem_of_mem hx
      exact hb' q hq (by omega)) es.length k 0 (true, lo, hi, 0, -1, 0) [] (by omega) (by omega) (st0 hm hb) (by simp)
  | succ d ih =>
    intro k i hi' hk hb'
    obtain ⟨k, rfl⟩ : ∃ q, k = q + 1 := ⟨k - 1, by omega⟩
    have hil : i < es.length := by omega
    simp only [spec_Run.l0, spec_EventOk_eq, Option.bind_some, decide_eq_true_eq]
    rw [if_pos (by omega), if_pos (by omega), if_pos (by omega), rdEv es i hil, w64 (a := (i : Int) + 1) (by omega)]
    by_cases h : okE es[i].f0 es[i].f1
    · rw [if_pos h]
      have := ih k (i + 1) (by omega) (by omega) (fun j' hj' hlt => by
        rcases Nat.lt_or_ge j' i with q | q
        · exact hb' j' hj' q
        · obtain rfl : j' = i := by omega
          exact h)
      rwa [show ((i + 1 : Nat) : Int) = (i : Int) + 1 by omega] at this
    · rw [if_neg h, runGo_bad s j m l o ms es _ _ es[i] (List.getElem_mem hil) h]
theorem spec_Run_eq (s j m l o : Int) (ms : List S37) (hn : ms.length ≤ 9000000000000) (lo hi : Int) (es : List S34) {k : Nat} (hk : ms.length * (ms.length + 3) + 600000 ≤ k) : spec_Run.f k s j m l o ms lo hi es = some (runV s j m l o ms lo hi es) := by
  simp only [spec_Run.f, spec_l1good_eq, spec_MarksOk_eq ms hn (show ms.length * (ms.length + 3) + 1 ≤ k by omega), Option.bind_some, decide_eq_true_eq, runV]
  obtain ⟨k, rfl⟩ : ∃ q, k = q + 1 := ⟨k - 1, by omega⟩
  simp only [spec_Run.j0, decide_eq_true_eq, if_true]
  by_cases hr : okR s j m l o ∧ okB lo hi
  · rw [if_pos hr]
    by_cases hm : marksB ms = true
    · rw [if_pos hm]
      by_cases hl : es.length ≤ 2000
      · rw [if_neg (by omega), if_pos ⟨hr.1, hm, hr.2, hl⟩]
        exact spec_Run_l0 hr.1 ms hm lo hi hr.2 es hl es.length k 0 (by omega) (by omega) (fun _ _ h => absurd h (by omega))
      · rw [if_pos (by omega), if_neg (fun h => hl h.2.2.2)]
    · rw [if_neg hm, if_neg (fun h => hm h.2.1)]
  · rw [if_neg hr, if_neg (fun h => hr ⟨h.1, h.2.2.1⟩)]
theorem eqStateS_loop (l : List S29) (hn : l.length ≤ 9000000000000000) (d : Nat) : ∀ (k i : Nat), i + d = l.length → d < k → laws_eqStateS.l0 k l l (i : Int) = some true := by
  induction d with
  | zero =>
    intro k i hi hk
    obtain ⟨k, rfl⟩ : ∃ m, k = m + 1 := ⟨k - 1, by omega⟩
    simp only [laws_eqStateS.l0]
    rw [if_neg (by omega)]
  | succ d ih =>
    intro k i hi hk
    obtain ⟨k, rfl⟩ : ∃ m, k = m + 1 := ⟨k - 1, by omega⟩
    simp only [laws_eqStateS.l0, eqState_refl, Option.bind_some]
    rw [if_pos (by omega), if_pos (by omega), if_pos (by omega), if_pos trivial, w64 (a := (i : Int) + 1) (by omega)]
    exact ih k (i + 1) (by omega) (by omega)
theorem eqStateS_refl (l : List S29) (hn : l.length ≤ 9000000000000000) {k : Nat} (hk : l.length < k) : laws_eqStateS.f k l l = some true := by
  unfold laws_eqStateS.f
  rw [if_pos rfl]
  exact eqStateS_loop l hn l.length k 0 (by omega) hk
def mkS (n : Nat) : List S29 := (List.range n).map fun (i : Nat) => (⟨false, ⟨2 + 6 * (i : Int), 3 + 6 * (i : Int)⟩, 4 + 6 * (i : Int), 5 + 6 * (i : Int), 6 + 6 * (i : Int)⟩ : S29)
theorem mkS_len (n : Nat) : (mkS n).length = n := by simp [mkS]
theorem mkS_succ (n : Nat) : mkS (n + 1) = mkS n ++ [⟨false, ⟨2 + 6 * (n : Int), 3 + 6 * (n : Int)⟩, 4 + 6 * (n : Int), 5 + 6 * (n : Int), 6 + 6 * (n : Int)⟩] := by simp [mkS, List.range_succ]
theorem third (i : Nat) : (Int.tmod (1 + 6 * (i : Int)) 3 == 0) = false := by
  rw [Int.tmod_eq_emod_of_nonneg (by omega)]
  simp only [beq_eq_false_iff_ne]
  omega
theorem markStateS_loop (l : List S29) (hn : l.length ≤ 9000000000000) (d : Nat) : ∀ (k i : Nat), i + d = l.length → d < k → laws_markStateS.l0 k (mkS i ++ l.drop i) (1 + 6 * (i : Int)) (i : Int) = some (1 + 6 * (l.length : Int), mkS l.length) := by
  induction d with
  | zero =>
    intro k i hi hk
    obtain ⟨k, rfl⟩ : ∃ m, k = m + 1 := ⟨k - 1, by omega⟩
    simp only [laws_markStateS.l0]
    obtain rfl : i = l.length := by omega
    rw [List.drop_length, List.append_nil, if_neg (by rw [mkS_len]; omega)]
  | succ d ih =>
    intro k i hi hk
    obtain ⟨k, rfl⟩ : ∃ m, k = m + 1 := ⟨k - 1, by omega⟩
    have hlen : (mkS i ++ l.drop i).length = l.length := by rw [List.length_append, mkS_len, List.length_drop]; omega
    have hs : ∀ x : S29, (mkS i ++ l.drop i).set i x = mkS i ++ x :: l.drop (i + 1) := by
      intro x
      rw [List.set_append, if_neg (by rw [mkS_len]; omega), mkS_len, Nat.sub_self, List.drop_eq_getElem_cons (show i < l.length by omega), List.set_cons_zero]
    have hs2 : ∀ x y : S29, (mkS i ++ x :: l.drop (i + 1)).set i y = mkS i ++ y :: l.drop (i + 1) := by
      intro x y
      rw [List.set_append, if_neg (by rw [mkS_len]; omega), mkS_len, Nat.sub_self, List.set_cons_zero]
    have hr : ∀ x : S29, rd_T29 (mkS i ++ x :: l.drop (i + 1)) (i : Int) = x := by
      intro x
      rw [rd_State _ i (by simp [mkS_len])]
      rw [List.getElem_append_right (by rw [mkS_len]; omega)]
      simp [mkS_len]
    simp only [laws_markStateS.l0, Option.bind_some, Int.toNat_natCast, hs, hr, hs2]
    rw [if_pos (by rw [hlen]; omega), if_pos (by omega), third, w64 (a := 1 + 6 * (i : Int) + 1) (by omega), w64 (a := 1 + 6 * (i : Int) + 1 + 1) (by omega), w64 (a := 1 + 6 * (i : Int) + 1 + 1 + 1) (by omega), w64 (a := 1 + 6 * (i : Int) + 1 + 1 + 1 + 1) (by omega), w64 (a := 1 + 6 * (i : Int) + 1 + 1 + 1 + 1 + 1) (by omega), w64 (a := 1 + 6 * (i : Int) + 1 + 1 + 1 + 1 + 1 + 1) (by omega), w64 (a := (i : Int) + 1) (by omega)]
    have := ih k (i + 1) (by omega) (by omega)
    rw [mkS_succ, List.append_assoc, show ((i + 1 : Nat) : Int) = (i : Int) + 1 by omega] at this
    rw [show 1 + 6 * (i : Int) + 1 + 1 + 1 + 1 + 1 + 1 = 1 + 6 * ((i : Int) + 1) by omega, show 1 + 6 * (i : Int) + 1 + 1 + 1 + 1 + 1 = 6 + 6 * (i : Int) by omega, show 1 + 6 * (i : Int) + 1 + 1 + 1 + 1 = 5 + 6 * (i : Int) by omega, show 1 + 6 * (i : Int) + 1 + 1 + 1 = 4 + 6 * (i : Int) by omega, show 1 + 6 * (i : Int) + 1 + 1 = 3 + 6 * (i : Int) by omega, show 1 + 6 * (i : Int) + 1 = 2 + 6 * (i : Int) by omega]
    exact this
theorem heldStateS_loop (n : Nat) (hn : n ≤ 9000000000000) (d : Nat) : ∀ (k i : Nat), i + d = n → d < k → laws_heldStateS.l0 k (mkS n) (1 + 6 * (i : Int)) (i : Int) = some (1 + 6 * (n : Int)) := by
  induction d with
  | zero =>
    intro k i hi hk
    obtain ⟨k, rfl⟩ : ∃ m, k = m + 1 := ⟨k - 1, by omega⟩
    simp only [laws_heldStateS.l0]
    rw [if_neg (by rw [mkS_len]; omega)]
    obtain rfl : i = n := by omega
    rfl
  | succ d ih =>
    intro k i hi hk
    obtain ⟨k, rfl⟩ : ∃ m, k = m + 1 := ⟨k - 1, by omega⟩
    simp only [laws_heldStateS.l0]
    have he : rd_T29 (mkS n) (i : Int) = ⟨false, ⟨2 + 6 * (i : Int), 3 + 6 * (i : Int)⟩, 4 + 6 * (i : Int), 5 + 6 * (i : Int), 6 + 6 * (i : Int)⟩ := by
      rw [rd_State _ i (by rw [mkS_len]; omega)]
      simp [mkS]
    rw [he]
    dsimp only
    rw [if_pos (by rw [mkS_len]; omega), if_pos (by omega), third, if_neg (by decide), w64 (a := 1 + 6 * (i : Int) + 1) (by omega), w64 (a := 1 + 6 * (i : Int) + 1 + 1) (by omega), w64 (a := 1 + 6 * (i : Int) + 1 + 1 + 1) (by omega), w64 (a := 1 + 6 * (i : Int) + 1 + 1 + 1 + 1) (by omega), w64 (a := 1 + 6 * (i : Int) + 1 + 1 + 1 + 1 + 1) (by omega), w64 (a := 1 + 6 * (i : Int) + 1 + 1 + 1 + 1 + 1 + 1) (by omega), w64 (a := (i : Int) + 1) (by omega), if_pos (by omega), if_pos (by omega), if_pos (by omega), if_pos (by omega), if_pos (by omega)]
    have := ih k (i + 1) (by omega) (by omega)
    rw [show ((i + 1 : Nat) : Int) = (i : Int) + 1 by omega] at this
    rw [show 1 + 6 * (i : Int) + 1 + 1 + 1 + 1 + 1 + 1 = 1 + 6 * ((i : Int) + 1) by omega]
    exact this
theorem markEventS_any (d : Nat) : ∀ (k i : Nat) (l : List S34) (a : Int), i + d = l.length → d < k → l.length ≤ 9000000000000 → 0 ≤ a → a ≤ 30000000000000 + 2 * i → ∃ l', laws_markEventS.l0 k l a (i : Int) = some (a + 2 * d, l') := by
  induction d with
  | zero =>
    intro k i l a hi hk hn h0 h1
    obtain ⟨k, rfl⟩ : ∃ m, k = m + 1 := ⟨k - 1, by omega⟩
    simp only [laws_markEventS.l0]
    rw [if_neg (by omega)]
    exact ⟨l, by simp⟩
  | succ d ih =>
    intro k i l a hi hk hn h0 h1
    obtain ⟨k, rfl⟩ : ∃ m, k = m + 1 := ⟨k - 1, by omega⟩
    simp only [laws_markEventS.l0, Option.bind_some]
    rw [if_pos (by omega), if_pos (by omega), w64 (a := a + 1) (by omega), w64 (a := a + 1 + 1) (by omega), w64 (a := (i : Int) + 1) (by omega)]
    generalize hL : ((l.set ((i : Int)).toNat ⟨a, (rd_T34 l (i : Int)).f1⟩).set ((i : Int)).toNat ⟨(rd_T34 (l.set ((i : Int)).toNat ⟨a, (rd_T34 l (i : Int)).f1⟩) (i : Int)).f0, a + 1⟩) = L
    have hLl : L.length = l.length := by rw [← hL]; simp
    obtain ⟨l', h⟩ := ih k (i + 1) L (a + 1 + 1) (by omega) (by omega) (by omega) (by omega) (by omega)
    rw [show ((i + 1 : Nat) : Int) = (i : Int) + 1 by omega] at h
    exact ⟨l', by rw [h]; congr 2; omega⟩
theorem runGo_len (s j m l o : Int) (ms : List S37) (es : List S34) : ∀ (t : St6) (out : List S29), (runGo s j m l o ms t out es).length ≤ out.length + es.length := by
  induction es with
  | nil => intro t out; simp [runGo]
  | cons e es ih =>
    intro t out
    simp only [runGo]
    split
    · have := ih (doT s j m l o ms t e) (out ++ [stS (doT s j m l o ms t e)])
      simp only [List.length_append, List.length_cons, List.length_nil] at this ⊢
      omega
    · simp
theorem runV_len (s j m l o : Int) (ms : List S37) (lo hi : Int) (es : List S34) : (runV s j m l o ms lo hi es).length ≤ 2000 := by
  unfold runV
  split
  · rename_i h
    have := runGo_len s j m l o ms es (true, lo, hi, 0, -1, 0) []
    simp only [List.length_nil] at this
    omega
  · simp
theorem FnExactRun (s j m l o : Int) (ms : List S106) (lo hi : Int) (es : List S44) (_ : (Lit.int .i64 s).wf = true) (_ : (Lit.int .i64 j).wf = true) (_ : (Lit.int .i64 m).wf = true) (_ : (Lit.int .i64 l).wf = true) (_ : (Lit.int .i64 o).wf = true)
    (hy1 : ms.length * 16 ≤ 140737488351232) (_ : ∀ x ∈ ms, (Lit.int .i64 x.f0).wf = true ∧ (Lit.int .i64 x.f1).wf = true) (_ : (Lit.int .i64 lo).wf = true) (_ : (Lit.int .i64 hi).wf = true) (hy2 : es.length * 16 ≤ 140737488351232) (_ : ∀ x ∈ es, (Lit.int .i64 x.f0).wf = true ∧ (Lit.int .i64 x.f1).wf = true) : ∃ k, laws_FnExactRun.f k s j m l o ms lo hi es = some true := by
  suffices main : ∀ k, ms.length * (ms.length + 3) + 3000000 ≤ k → laws_FnExactRun.f (k + 1) s j m l o ms lo hi es = some true from ⟨_, main _ (Nat.le_refl _)⟩
  intro k hk
  unfold laws_FnExactRun.f
  rw [szMarkS_eq ms (by omega) 1048576 (by omega)]
  simp only [Option.bind_some]
  by_cases h2 : (ms.length : Int) ≤ 1048576
  · rw [if_pos h2, if_neg (by omega), szEventS_eq es (by omega) _ (by omega)]
    simp only [Option.bind_some]
    by_cases h3 : (es.length : Int) ≤ 1048576 - (ms.length : Int)
    · have em : (ms.map cMark).length = ms.length := List.length_map ..
      have et : (es.map cEvent).length = es.length := List.length_map ..
      generalize hK : ms.length * (ms.length + 3) = K at hk
      rw [if_pos h3, if_neg (by omega)]
      simp only [laws_toRules.f, laws_toBound.f, toMarkS_eq ms (show ms.length ≤ 1048576 by omega) (show ms.length < k + 1 by omega), toEventS_eq es (show es.length ≤ 1048576 by omega) (show es.length < k + 1 by omega), Option.bind_some]
      rw [spec_Run_eq s j m l o (ms.map cMark) (by omega) lo hi (es.map cEvent) (by rw [em, hK]; omega), impl_Run_eq s j m l o (ms.map cMark) lo hi (es.map cEvent) (by omega)]
      simp only [Option.bind_some]
      have hv := runV_len s j m l o (ms.map cMark) lo hi (es.map cEvent)
      have hF : impl_Run.f k s j m l o (ms.map cMark) lo hi (es.map cEvent) = some (runV s j m l o (ms.map cMark) lo hi (es.map cEvent)) := impl_Run_eq s j m l o (ms.map cMark) lo hi (es.map cEvent) (by omega)
      generalize runV s j m l o (ms.map cMark) lo hi (es.map cEvent) = V at hv hF ⊢
      rw [eqStateS_refl V (by omega) (by omega)]
      simp only [if_true, Option.bind_some]
      rw [eqMarkS_refl (ms.map cMark) (by omega) (by omega)]
      simp only [if_true, Option.bind_some]
      rw [eqEventS_refl (es.map cEvent) (by omega) (by omega)]
      simp only [if_true, Option.bind_some]
      obtain ⟨q1, e1⟩ := markMarkS_loop (ms.map cMark).length (k + 1) 0 (ms.map cMark) 1 (by omega) (by omega) (by omega) (by omega) (by omega)
      obtain ⟨q2, e2⟩ := markEventS_any (es.map cEvent).length (k + 1) 0 (es.map cEvent) (1 + 2 * ((ms.map cMark).length : Int)) (by omega) (by omega) (by omega) (by omega) (by omega)
      have hm1 : laws_markMarkS.f (k + 1) (ms.map cMark) 1 = some (1 + 2 * ((ms.map cMark).length : Int), q1) := e1
      have hm2 : laws_markEventS.f (k + 1) (es.map cEvent) (1 + 2 * ((ms.map cMark).length : Int)) = some (1 + 2 * ((ms.map cMark).length : Int) + 2 * ((es.map cEvent).length : Int), q2) := e2
      rw [hm1]
      simp only [Option.bind_some]
      rw [hm2]
      simp only [Option.bind_some]
      rw [if_neg (by omega)]
      have e4 := markStateS_loop V (by omega) V.length k 0 (by omega) (by omega)
      have e5 := heldStateS_loop V.length (by omega) V.length k 0 (by omega) (by omega)
      have hm4 : laws_markStateS.f k V 1 = some (1 + 6 * (V.length : Int), mkS V.length) := by
        simpa [mkS, laws_markStateS.f] using e4
      have hm5 : laws_heldStateS.f k (mkS V.length) 1 = some (1 + 6 * (V.length : Int)) := by
        simpa [laws_heldStateS.f] using e5
      simp only [laws_FnExactRun.j0, Bool.not_true, Bool.false_eq_true, if_false]
      rw [hm4]
      simp only [Option.bind_some]
      rw [hm5]
      simp only [Option.bind_some]
      rw [if_neg (by omega), if_pos trivial]
      simp only [laws_toRules.f, laws_toBound.f, toMarkS_eq ms (show ms.length ≤ 1048576 by omega) (show ms.length < k by omega), toEventS_eq es (show es.length ≤ 1048576 by omega) (show es.length < k by omega), Option.bind_some]
      rw [hF]
      simp only [Option.bind_some]
      rw [eqStateS_refl V (by omega) (by omega)]
      simp only [if_true, Option.bind_some]
      rw [if_neg (by omega)]
    · rw [if_neg h3]
      rfl
  · rw [if_neg h2]
    rfl
end Go.Proofs.Ytommdabkkgcgbaa.Pure
