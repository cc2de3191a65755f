/- The plain law of laws.FnRead: what the printed functions compute answers true at every input, in plain Lean, without Go and memory. Its conditions: each number is an int64, each slice takes fewer than 2^47 bytes. -/
import Derived.Test.YtommdabkkgcgbaaQFnReadx12
namespace Go.Proofs.Ytommdabkkgcgbaa.Pure
open Go.RowKit Go.Proofs.Ytommdabkkgcgbaa.QFnRead Go.Proofs.YtommdabkkgcgbaaW.PrintWords Go.Proofs.YtommdabkkgcgbaaW.PrintLast Go.Proofs.YtommdabkkgcgbaaW.PrintMore
set_option linter.unusedVariables false
set_option linter.unusedSimpArgs false
theorem sd {p : Prop} [Decidable p] {b : Bool} (h : b = true ↔ p) : some b = some (decide p) := by
  cases b <;> simp_all
abbrev okR (s j m l o : Int) : Prop := 0 ≤ s ∧ s ≤ 500 ∧ 0 ≤ j ∧ j ≤ 1000 ∧ 0 ≤ m ∧ m ≤ 10000 ∧ 1 ≤ l ∧ l ≤ 1000000 ∧ 0 ≤ o ∧ o ≤ 10000
abbrev okB (a b : Int) : Prop := -100000000 ≤ a ∧ a ≤ b ∧ b ≤ 100000000
abbrev okE (op n : Int) : Prop := (op = 1 ∧ 0 ≤ n ∧ n ≤ 100000) ∨ (op = 2 ∧ 1 ≤ n ∧ n ≤ 1000000000) ∨ ((op = 3 ∨ op = 4) ∧ n = 0)
theorem wf64 {a : Int} (h : (Lit.int .i64 a).wf = true) : -9223372036854775808 ≤ a ∧ a ≤ 9223372036854775807 := by
  have h' := h
  simp [Lit.wf, IntKind.min, IntKind.max, IntKind.signed, IntKind.bits] at h'
  omega
theorem spec_l1in_eq (x a b : Int) : spec_l1in.f x a b = some (decide (a ≤ x ∧ x ≤ b)) := by
  unfold spec_l1in.f
  split <;> (apply sd; simp only [decide_eq_true_eq, Bool.false_eq_true, false_iff]; omega)
theorem impl_in_eq (x a b : Int) : impl_in.f x a b = some (decide (a ≤ x ∧ x ≤ b)) := by
  unfold impl_in.f
  split <;> (apply sd; simp only [decide_eq_true_eq, Bool.false_eq_true, false_iff]; omega)
theorem spec_BoundOk_eq (a b : Int) : spec_BoundOk.f a b = some (decide (okB a b)) := by
  simp only [spec_BoundOk.f, spec_l1in_eq, Option.bind_some, decide_eq_true_eq]
  split <;> (apply sd; simp only [decide_eq_true_eq, Bool.false_eq_true, false_iff]; omega)
theorem impl_BoundOk_eq (a b : Int) : impl_BoundOk.f a b = some (decide (okB a b)) := by
  simp only [impl_BoundOk.f, impl_in_eq, Option.bind_some, decide_eq_true_eq]
  split <;> (apply sd; simp only [decide_eq_true_eq, Bool.false_eq_true, false_iff]; omega)
theorem spec_RulesOk_eq (s j m l o : Int) : spec_RulesOk.f s j m l o = some (decide (okR s j m l o)) := by
  simp only [spec_RulesOk.f, spec_l1in_eq, Option.bind_some, decide_eq_true_eq]
  (repeat' split) <;> (apply sd; simp only [decide_eq_true_eq, Bool.false_eq_true, false_iff]; omega)
theorem impl_RulesOk_eq (s j m l o : Int) : impl_RulesOk.f s j m l o = some (decide (okR s j m l o)) := by
  simp only [impl_RulesOk.f, impl_in_eq, Option.bind_some, decide_eq_true_eq]
  (repeat' split) <;> (apply sd; simp only [decide_eq_true_eq, Bool.false_eq_true, false_iff]; omega)
theorem spec_EventOk_eq (op n : Int) : spec_EventOk.f op n = some (decide (okE op n)) := by
  simp only [spec_EventOk.f, spec_l1in_eq, Option.bind_some]
  (repeat' split) <;> (apply sd; simp only [decide_eq_true_eq, beq_iff_eq, Bool.false_eq_true, false_iff]; omega)
theorem impl_EventOk_eq (op n : Int) : impl_EventOk.f op n = some (decide (okE op n)) := by
  simp only [impl_EventOk.f, impl_in_eq, Option.bind_some]
  (repeat' split) <;> (apply sd; simp only [decide_eq_true_eq, beq_iff_eq, Bool.false_eq_true, false_iff]; omega)
theorem spec_Meets_eq (a b c d : Int) : spec_Meets.f a b c d = some (decide (a ≤ d ∧ c ≤ b)) := by
  unfold spec_Meets.f
  split <;> (apply sd; simp only [decide_eq_true_eq, Bool.false_eq_true, false_iff]; omega)
theorem impl_Meets_eq (a b c d : Int) : impl_Meets.f a b c d = some (decide (a ≤ d ∧ c ≤ b)) := by
  unfold impl_Meets.f
  split <;> (apply sd; simp only [decide_eq_true_eq, Bool.false_eq_true, false_iff]; omega)
theorem spec_Both_eq (a b c d : Int) : spec_Both.f a b c d = some (if a ≤ d ∧ c ≤ b then (max a c, min b d) else (0, 0)) := by
  simp only [spec_Both.f, spec_Meets_eq, Option.bind_some, decide_eq_true_eq]
  (repeat' split) <;> simp only [Option.some.injEq, Prod.mk.injEq] <;> omega
theorem impl_Both_eq (a b c d : Int) : impl_Both.f a b c d = some (if a ≤ d ∧ c ≤ b then (max a c, min b d) else (0, 0)) := by
  simp only [impl_Both.f, impl_Meets_eq, Option.bind_some, decide_eq_true_eq]
  unfold mx mn
  (repeat' split) <;> simp only [Option.some.injEq, Prod.mk.injEq] <;> omega
theorem w64 {a : Int} (h : -9223372036854775808 ≤ a ∧ a ≤ 9223372036854775807) : wrap64 a = a := by unfold wrap64; omega
/-- The least and the most that wheels can have come, in closed form. -/
def lst (s j c : Int) : Int := if 0 < c - j then (1000 * (c - j) + 999 + s) / (1000 + s) else 0
def mst (s j c : Int) : Int := 1000 * (c + j) / (1000 - s)
def stay (x : Int) : Int := max (-100000000) (min x 100000000)
theorem lst_le_iff {s j c x : Int} (hs : 0 ≤ s) (hx : 0 ≤ x) : lst s j c ≤ x ↔ 1000 * (c - j) ≤ 1000 * x + s * x := by
  have hp : 0 ≤ s * x := Int.mul_nonneg hs hx
  unfold lst
  split
  · rw [← Int.lt_add_one_iff, Int.ediv_lt_iff_lt_mul (by omega)]
    have e : (x + 1) * (1000 + s) = 1000 * x + s * x + 1000 + s := by
      rw [Int.add_mul, Int.mul_add, Int.mul_comm x 1000, Int.mul_comm x s]; omega
    rw [e]
    omega
  · constructor
    · intro _; omega
    · intro _; exact hx
theorem lst_nonneg {s j c : Int} (hs : 0 ≤ s) : 0 ≤ lst s j c := by
  unfold lst
  split
  · exact Int.ediv_nonneg (by omega) (by omega)
  · omega
theorem le_mst_iff {s j c x : Int} (hs : s ≤ 500) : x ≤ mst s j c ↔ 1000 * x - s * x ≤ 1000 * (c + j) := by
  unfold mst
  rw [Int.le_ediv_iff_mul_le (by omega)]
  have e : x * (1000 - s) = 1000 * x - s * x := by rw [Int.mul_sub, Int.mul_comm x 1000, Int.mul_comm x s]
  rw [e]
theorem mst_le {s j c : Int} (h0 : 0 ≤ s) (hs : s ≤ 500) (hj : 0 ≤ j ∧ j ≤ 1000) (hc : 0 ≤ c ∧ c ≤ 100000) : mst s j c ≤ 202000 := by
  unfold mst
  rw [← Int.lt_add_one_iff, Int.ediv_lt_iff_lt_mul (by omega)]
  omega
theorem lst_le {s j c : Int} (h0 : 0 ≤ s) (hj : 0 ≤ j) (hc : 0 ≤ c) : lst s j c ≤ c := by
  have hp : 0 ≤ s * c := Int.mul_nonneg h0 hc
  rw [lst_le_iff h0 hc]; omega
theorem le_mst {s j c : Int} (h0 : 0 ≤ s) (hs : s ≤ 500) (hj : 0 ≤ j) (hc : 0 ≤ c) : c ≤ mst s j c := by
  have hp : 0 ≤ s * c := Int.mul_nonneg h0 hc
  rw [le_mst_iff hs]; omega
theorem sx_bd {s x : Int} (h0 : 0 ≤ s) (hs : s ≤ 500) (hx : 0 ≤ x) (hx2 : x ≤ 300000) : 0 ≤ s * x ∧ s * x ≤ 150000000 := by
  refine ⟨Int.mul_nonneg h0 hx, ?_⟩
  have := Int.mul_le_mul hs hx2 hx (by omega)
  omega
abbrev fairP (s j x c : Int) : Prop := 1000 * (x - c) ≤ s * x + 1000 * j ∧ 1000 * (c - x) ≤ s * x + 1000 * j
theorem spec_l1fair_eq {s j m l o x c : Int} (h0 : 0 ≤ s) (hs : s ≤ 500) (hj : 0 ≤ j ∧ j ≤ 1000) (hx : 0 ≤ x) (hx2 : x ≤ 300000) (hc : 0 ≤ c ∧ c ≤ 100000) :
    spec_l1fair.f s j m l o x c = some (decide (fairP s j x c)) := by
  have hp := sx_bd h0 hs hx hx2
  unfold spec_l1fair.f fairP
  generalize s * x = p at hp ⊢
  rw [w64 (a := x - c) (by omega), w64 (a := -(x - c)) (by omega), w64 (a := 1000 * -(x - c)) (by omega), w64 (a := 1000 * (x - c)) (by omega), w64 (a := p) (by omega), w64 (a := 1000 * j) (by omega), w64 (a := p + 1000 * j) (by omega)]
  split <;> (apply sd; simp only [decide_eq_true_eq]; omega)
theorem spec_l1least_loop {s j m l o c : Int} (h0 : 0 ≤ s) (hs : s ≤ 500) (hj : 0 ≤ j ∧ j ≤ 1000) (hc : 0 ≤ c ∧ c ≤ 100000) (d : Nat) :
    ∀ (k : Nat) (far : Int), far = lst s j c - 1 + d → far + 1 ≤ c → d < k → spec_l1least.l0 k c (far + 1) far s j m l o = some (lst s j c) := by
  have hn := lst_nonneg (s := s) (j := j) (c := c) h0
  induction d with
  | zero =>
    intro k far hf hle hk
    obtain ⟨k, rfl⟩ : ∃ m, k = m + 1 := ⟨k - 1, by omega⟩
    simp only [spec_l1least.l0]
    split
    · rw [spec_l1fair_eq h0 hs hj (by omega) (by omega) hc]
      have hp := sx_bd h0 hs (x := far) (by omega) (by omega)
      have hnot : ¬ lst s j c ≤ far := by omega
      rw [lst_le_iff h0 (by omega)] at hnot
      simp only [Option.bind_some]
      rw [decide_eq_false (by unfold fairP; omega), if_neg (by decide)]
      congr 1; omega
    · congr 1; omega
  | succ d ih =>
    intro k far hf hle hk
    obtain ⟨k, rfl⟩ : ∃ m, k = m + 1 := ⟨k - 1, by omega⟩
    simp only [spec_l1least.l0]
    have h1 : far ≥ 0 := by omega
    rw [if_pos h1, spec_l1fair_eq h0 hs hj (by omega) (by omega) hc]
    have hp := sx_bd h0 hs (x := far) (by omega) (by omega)
    have hyes : lst s j c ≤ far := by omega
    rw [lst_le_iff h0 (by omega)] at hyes
    simp only [Option.bind_some]
    rw [decide_eq_true (by unfold fairP; omega), if_pos rfl, w64 (a := far - 1) (by omega)]
    have := ih k (far - 1) (by omega) (by omega) (by omega)
    rwa [show far - 1 + 1 = far from by omega] at this
theorem spec_l1least_eq {s j m l o c : Int} (h0 : 0 ≤ s) (hs : s ≤ 500) (hj : 0 ≤ j ∧ j ≤ 1000) (hc : 0 ≤ c ∧ c ≤ 100000) {k : Nat} (hk : 210000 ≤ k) : spec_l1least.f k s j m l o c = some (lst s j c) := by
  have hn := lst_nonneg (s := s) (j := j) (c := c) h0
  have hle := lst_le (s := s) (j := j) (c := c) h0 hj.1 hc.1
  have hp := sx_bd h0 hs (x := c) (by omega) (by omega)
  unfold spec_l1least.f
  obtain ⟨k, rfl⟩ : ∃ m, k = m + 1 := ⟨k - 1, by omega⟩
  simp only [spec_l1least.l0]
  rw [if_pos (show c ≥ 0 by omega), spec_l1fair_eq h0 hs hj (by omega) (by omega) hc]
  simp only [Option.bind_some]
  rw [decide_eq_true (by unfold fairP; omega), if_pos rfl, w64 (a := c - 1) (by omega)]
  have := spec_l1least_loop (m := m) (l := l) (o := o) h0 hs hj hc (c - lst s j c).toNat k (c - 1) (by omega) (by omega) (by omega)
  rwa [show c - 1 + 1 = c from by omega] at this
theorem spec_l1most_loop {s j m l o c : Int} (h0 : 0 ≤ s) (hs : s ≤ 500) (hj : 0 ≤ j ∧ j ≤ 1000) (hc : 0 ≤ c ∧ c ≤ 100000) (d : Nat) :
    ∀ (k : Nat) (far : Int), far = mst s j c + 1 - d → c ≤ far - 1 → d < k → spec_l1most.l0 k c (far - 1) far s j m l o = some (mst s j c) := by
  have hm := mst_le h0 hs hj hc
  induction d with
  | zero =>
    intro k far hf hle hk
    obtain ⟨k, rfl⟩ : ∃ m, k = m + 1 := ⟨k - 1, by omega⟩
    simp only [spec_l1most.l0]
    rw [spec_l1fair_eq h0 hs hj (by omega) (by omega) hc]
    have hp := sx_bd h0 hs (x := far) (by omega) (by omega)
    have hnot : ¬ far ≤ mst s j c := by omega
    rw [le_mst_iff hs] at hnot
    simp only [Option.bind_some]
    rw [decide_eq_false (by unfold fairP; omega), if_neg (by decide)]
    congr 1; omega
  | succ d ih =>
    intro k far hf hle hk
    obtain ⟨k, rfl⟩ : ∃ m, k = m + 1 := ⟨k - 1, by omega⟩
    simp only [spec_l1most.l0]
    rw [spec_l1fair_eq h0 hs hj (by omega) (by omega) hc]
    have hp := sx_bd h0 hs (x := far) (by omega) (by omega)
    have hyes : far ≤ mst s j c := by omega
    rw [le_mst_iff hs] at hyes
    simp only [Option.bind_some]
    rw [decide_eq_true (by unfold fairP; omega), if_pos rfl, w64 (a := far + 1) (by omega)]
    have := ih k (far + 1) (by omega) (by omega) (by omega)
    rwa [show far + 1 - 1 = far from by omega] at this
theorem spec_l1most_eq {s j m l o c : Int} (h0 : 0 ≤ s) (hs : s ≤ 500) (hj : 0 ≤ j ∧ j ≤ 1000) (hc : 0 ≤ c ∧ c ≤ 100000) {k : Nat} (hk : 210000 ≤ k) : spec_l1most.f k s j m l o c = some (mst s j c) := by
  have hm := mst_le h0 hs hj hc
  have hle := le_mst (s := s) (j := j) (c := c) h0 hs hj.1 hc.1
  have hp := sx_bd h0 hs (x := c) (by omega) (by omega)
  unfold spec_l1most.f
  obtain ⟨k, rfl⟩ : ∃ m, k = m + 1 := ⟨k - 1, by omega⟩
  simp only [spec_l1most.l0]
  rw [spec_l1fair_eq h0 hs hj (by omega) (by omega) hc]
  simp only [Option.bind_some]
  rw [decide_eq_true (by unfold fairP; omega), if_pos rfl, w64 (a := c + 1) (by omega)]
  have := spec_l1most_loop (m := m) (l := l) (o := o) h0 hs hj hc (mst s j c - c).toNat k (c + 1) (by omega) (by omega) (by omega)
  rwa [show c + 1 - 1 = c from by omega] at this
theorem spec_l1clip_eq {a b : Int} (h : a ≤ b) (hb : -100000000 ≤ b) {k : Nat} (hk : 2 ≤ k) : spec_l1clip.f k a b = some (stay a, stay b) := by
  obtain ⟨k, rfl⟩ : ∃ m, k = m + 2 := ⟨k - 2, by omega⟩
  unfold spec_l1clip.f stay
  simp only [spec_l1clip.j0, spec_l1clip.j1]
  (repeat' split) <;> simp only [Option.some.injEq, Prod.mk.injEq] <;> omega
theorem impl_stay_eq (x : Int) : impl_stay.f x = some (stay x) := by
  unfold impl_stay.f stay mx mn
  congr 1
  (repeat' split) <;> omega
theorem impl_came_eq {s j m l o c : Int} (h0 : 0 ≤ s) (hs : s ≤ 500) (hj : 0 ≤ j ∧ j ≤ 1000) (hc : 0 ≤ c ∧ c ≤ 100000) : impl_came.f s j m l o c = some (lst s j c, mst s j c) := by
  have hm := mst_le h0 hs hj hc
  have hm0 := le_mst (s := s) (j := j) (c := c) h0 hs hj.1 hc.1
  have hl := lst_le (s := s) (j := j) (c := c) h0 hj.1 hc.1
  have hl0 := lst_nonneg (s := s) (j := j) (c := c) h0
  unfold impl_came.f
  rw [w64 (a := c - j) (by omega), w64 (a := c + j) (by omega), w64 (a := 1000 * (c - j)) (by omega), w64 (a := 1000 * (c + j)) (by omega), w64 (a := 1000 + s) (by omega), w64 (a := 1000 - s) (by omega), w64 (a := 1000 * (c - j) + 999) (by omega), w64 (a := 1000 * (c - j) + 999 + s) (by omega)]
  have e2 : wrap64 ((1000 * (c + j)).tdiv (1000 - s)) = mst s j c := by
    rw [Int.tdiv_eq_ediv_of_nonneg (by omega)]
    exact w64 (a := mst s j c) (by omega)
  simp only [if_neg (show ¬ 1000 - s = 0 by omega), if_neg (show ¬ 1000 + s = 0 by omega), e2]
  split
  · rename_i hpos
    have e1 : wrap64 ((1000 * (c - j) + 999 + s).tdiv (1000 + s)) = lst s j c := by
      rw [Int.tdiv_eq_ediv_of_nonneg (by omega)]
      have e : (1000 * (c - j) + 999 + s) / (1000 + s) = lst s j c := by unfold lst; rw [if_pos (by omega)]
      rw [e]
      exact w64 (by omega)
    rw [e1]
  · rename_i hneg
    have e : lst s j c = 0 := by unfold lst; rw [if_neg (by omega)]
    rw [e]
theorem spec_l1good_eq (s j m l o a b : Int) : spec_l1good.f s j m l o a b = some (decide (okR s j m l o ∧ okB a b)) := by
  simp only [spec_l1good.f, spec_RulesOk_eq, spec_BoundOk_eq, Option.bind_some, decide_eq_true_eq]
  split
  · rename_i h1
    exact congrArg some (decide_eq_decide.2 ⟨fun h => ⟨h1, h⟩, fun h => h.2⟩)
  · rename_i h1
    exact congrArg some (decide_eq_false (fun h => h1 h.1)).symm
/-- What Wheel answers. -/
def wheelV (s j m l o a b c : Int) : Int × Int := if okR s j m l o ∧ okB a b ∧ (0 ≤ c ∧ c ≤ 100000) then (stay (a + lst s j c), stay (b + mst s j c)) else (0, 0)
/-- What Read answers. -/
def readV (s j m l o a b x : Int) : Int × Int :=
  if okR s j m l o ∧ okB a b ∧ (0 ≤ x ∧ x ≤ 100000000) then
    (if a ≤ stay (x + m) ∧ stay (x - m) ≤ b then (max a (stay (x - m)), min b (stay (x + m))) else (min a (stay (x - m)), max b (stay (x + m)))) else (0, 0)
theorem spec_Wheel_eq (s j m l o a b c : Int) {k : Nat} (hk : 220000 ≤ k) : spec_Wheel.f k s j m l o a b c = some (wheelV s j m l o a b c) := by
  obtain ⟨k, rfl⟩ : ∃ m, k = m + 1 := ⟨k - 1, by omega⟩
  simp only [spec_Wheel.f, spec_l1good_eq, spec_l1in_eq, Option.bind_some, decide_eq_true_eq, spec_Wheel.j0, wheelV]
  by_cases h1 : okR s j m l o ∧ okB a b
  · rw [if_pos h1]
    by_cases h2 : 0 ≤ c ∧ c ≤ 100000
    · obtain ⟨hr, hb⟩ := h1
      rw [if_pos (show okR s j m l o ∧ okB a b ∧ (0 ≤ c ∧ c ≤ 100000) from ⟨hr, hb, h2⟩), decide_eq_true h2]
      have hl := lst_le (s := s) (j := j) (c := c) (by omega) (by omega) h2.1
      have hl0 := lst_nonneg (s := s) (j := j) (c := c) (by omega)
      have hm := mst_le (s := s) (j := j) (c := c) (by omega) (by omega) (by omega) h2
      have hm0 := le_mst (s := s) (j := j) (c := c) (by omega) (by omega) (by omega) h2.1
      rw [if_neg (by decide), spec_l1least_eq (by omega) (by omega) (by omega) h2 (by omega), spec_l1most_eq (by omega) (by omega) (by omega) h2 (by omega)]
      simp only [Option.bind_some]
      rw [w64 (a := a + lst s j c) (by omega), w64 (a := b + mst s j c) (by omega), spec_l1clip_eq (by omega) (by omega) (by omega)]
      rfl
    · rw [if_neg (show ¬ (okR s j m l o ∧ okB a b ∧ (0 ≤ c ∧ c ≤ 100000)) from fun h => h2 h.2.2), decide_eq_false h2]
      rfl
  · rw [if_neg h1, if_neg (show ¬ (okR s j m l o ∧ okB a b ∧ (0 ≤ c ∧ c ≤ 100000)) from fun h => h1 ⟨h.1, h.2.1⟩)]
    rfl
theorem impl_Wheel_eq (s j m l o a b c : Int) {k : Nat} (hk : 1 ≤ k) : impl_Wheel.f k s j m l o a b c = some (wheelV s j m l o a b c) := by
  obtain ⟨k, rfl⟩ : ∃ m, k = m + 1 := ⟨k - 1, by omega⟩
  simp only [impl_Wheel.f, impl_RulesOk_eq, impl_BoundOk_eq, impl_in_eq, impl_stay_eq, Option.bind_some, decide_eq_true_eq, impl_Wheel.j0, wheelV]
  by_cases hr : okR s j m l o
  · rw [if_pos hr]
    by_cases hb : okB a b
    · rw [if_pos hb]
      by_cases h2 : 0 ≤ c ∧ c ≤ 100000
      · rw [if_pos (show okR s j m l o ∧ okB a b ∧ (0 ≤ c ∧ c ≤ 100000) from ⟨hr, hb, h2⟩), decide_eq_true h2]
        have hl := lst_le (s := s) (j := j) (c := c) (by omega) (by omega) h2.1
        have hl0 := lst_nonneg (s := s) (j := j) (c := c) (by omega)
        have hm := mst_le (s := s) (j := j) (c := c) (by omega) (by omega) (by omega) h2
        have hm0 := le_mst (s := s) (j := j) (c := c) (by omega) (by omega) (by omega) h2.1
        rw [if_neg (by decide), impl_came_eq (by omega) (by omega) (by omega) h2]
        simp only [Option.bind_some]
        rw [w64 (a := a + lst s j c) (by omega), w64 (a := b + mst s j c) (by omega)]
      · rw [if_neg (show ¬ (okR s j m l o ∧ okB a b ∧ (0 ≤ c ∧ c ≤ 100000)) from fun h => h2 h.2.2), decide_eq_false h2]
        rfl
    · rw [if_neg hb, if_neg (show ¬ (okR s j m l o ∧ okB a b ∧ (0 ≤ c ∧ c ≤ 100000)) from fun h => hb h.2.1)]
      rfl
  · rw [if_neg hr, if_neg (show ¬ (okR s j m l o ∧ okB a b ∧ (0 ≤ c ∧ c ≤ 100000)) from fun h => hr h.1)]
    rfl
theorem impl_own_eq {s j m l o x : Int} (hm : 0 ≤ m ∧ m ≤ 10000) (hx : 0 ≤ x ∧ x ≤ 100000000) : impl_own.f s j m l o x = some (stay (x - m), stay (x + m)) := by
  simp only [impl_own.f, impl_stay_eq, Option.bind_some]
  rw [w64 (a := x - m) (by omega), w64 (a := x + m) (by omega)]
theorem impl_Read_eq (s j m l o a b x : Int) {k : Nat} (hk : 1 ≤ k) : impl_Read.f k s j m l o a b x = some (readV s j m l o a b x) := by
  obtain ⟨k, rfl⟩ : ∃ m, k = m + 1 := ⟨k - 1, by omega⟩
  simp only [impl_Read.f, impl_RulesOk_eq, impl_BoundOk_eq, impl_in_eq, Option.bind_some, decide_eq_true_eq, impl_Read.j0, readV]
  by_cases hr : okR s j m l o
  · rw [if_pos hr]
    by_cases hb : okB a b
    · rw [if_pos hb]
      by_cases h2 : 0 ≤ x ∧ x ≤ 100000000
      · rw [if_pos (show okR s j m l o ∧ okB a b ∧ (0 ≤ x ∧ x ≤ 100000000) from ⟨hr, hb, h2⟩), decide_eq_true h2]
        rw [if_neg (by decide), impl_own_eq (by omega) h2]
        simp only [Option.bind_some, impl_Meets_eq, impl_Both_eq, decide_eq_true_eq]
        unfold mx mn
        by_cases hmt : a ≤ stay (x + m) ∧ stay (x - m) ≤ b
        · rw [if_pos (show stay (x - m) ≤ b ∧ a ≤ stay (x + m) from ⟨hmt.2, hmt.1⟩), if_pos hmt]
          simp only [Option.bind_some, hmt, and_self, if_true, Option.some.injEq, Prod.mk.injEq]
          omega
        · rw [if_neg (show ¬ (stay (x - m) ≤ b ∧ a ≤ stay (x + m)) from fun h => hmt ⟨h.2, h.1⟩), if_neg hmt]
          simp only [Option.some.injEq, Prod.mk.injEq]
          (repeat' split) <;> omega
      · rw [if_neg (show ¬ (okR s j m l o ∧ okB a b ∧ (0 ≤ x ∧ x ≤ 100000000)) from fun h => h2 h.2.2), decide_eq_false h2]
        rfl
    · rw [if_neg hb, if_neg (show ¬ (okR s j m l o ∧ okB a b ∧ (0 ≤ x ∧ x ≤ 100000000)) from fun h => hb h.2.1)]
      rfl
  · rw [if_neg hr, if_neg (show ¬ (okR s j m l o ∧ okB a b ∧ (0 ≤ x ∧ x ≤ 100000000)) from fun h => hr h.1)]
    rfl
theorem spec_Read_eq (s j m l o a b x : Int) {k : Nat} (hk : 3 ≤ k) : spec_Read.f k s j m l o a b x = some (readV s j m l o a b x) := by
  obtain ⟨k, rfl⟩ : ∃ m, k = m + 1 := ⟨k - 1, by omega⟩
  simp only [spec_Read.f, spec_l1good_eq, spec_l1in_eq, Option.bind_some, decide_eq_true_eq, spec_Read.j0, readV]
  by_cases h1 : okR s j m l o ∧ okB a b
  · rw [if_pos h1]
    by_cases h2 : 0 ≤ x ∧ x ≤ 100000000
    · obtain ⟨hr, hb⟩ := h1
      rw [if_pos (show okR s j m l o ∧ okB a b ∧ (0 ≤ x ∧ x ≤ 100000000) from ⟨hr, hb, h2⟩), decide_eq_true h2]
      rw [if_neg (by decide), w64 (a := x - m) (by omega), w64 (a := x + m) (by omega), spec_l1clip_eq (by omega) (by omega) (by omega)]
      simp only [Option.bind_some, spec_Meets_eq, spec_Both_eq, decide_eq_true_eq]
      by_cases hmt : a ≤ stay (x + m) ∧ stay (x - m) ≤ b
      · rw [if_pos hmt, if_pos hmt]
        simp only [Option.bind_some, hmt, and_self, if_true]
      · rw [if_neg hmt, if_neg hmt]
        (repeat' split) <;> simp only [Option.some.injEq, Prod.mk.injEq] <;> omega
    · rw [if_neg (show ¬ (okR s j m l o ∧ okB a b ∧ (0 ≤ x ∧ x ≤ 100000000)) from fun h => h2 h.2.2), decide_eq_false h2]
      rfl
  · rw [if_neg h1, if_neg (show ¬ (okR s j m l o ∧ okB a b ∧ (0 ≤ x ∧ x ≤ 100000000)) from fun h => h1 ⟨h.1, h.2.1⟩)]
    rfl
theorem impl_MarksOk_eq (l : List S37) : impl_MarksOk.f l = some (marksB l) := rfl
theorem marksB_false {l : List S37} {i : Nat} (hi : i < l.length) (h : okAt l i = false) : marksB l = false := by
  unfold marksB
  rw [Bool.and_eq_false_iff]
  right
  rw [List.all_eq_false]
  exact ⟨i, List.mem_range.2 hi, by rw [h]; decide⟩
theorem okAt_of {l : List S37} (h : marksB l = true) {i : Nat} (hi : i < l.length) : okAt l i = true := by
  unfold marksB at h
  rw [Bool.and_eq_true, List.all_eq_true] at h
  exact h.2 i (List.mem_range.2 hi)
theorem marks_len {l : List S37} (h : marksB l = true) : l.length ≤ 100 := by
  unfold marksB at h
  rw [Bool.and_eq_true] at h
  exact of_decide_eq_true h.1
theorem okAt_range {l : List S37} {i : Nat} (h : okAt l i = true) : (1 ≤ (rd_T37 l (i : Int)).f0 ∧ (rd_T37 l (i : Int)).f0 ≤ 1000000000) ∧ (0 ≤ (rd_T37 l (i : Int)).f1 ∧ (rd_T37 l (i : Int)).f1 ≤ 100000000) := by
  unfold okAt at h
  simp only [Bool.and_eq_true, decide_eq_true_eq] at h
  exact ⟨h.1.1.1, h.1.2⟩
theorem spec_MarksOk_inner (l : List S37) (hn : l.length ≤ 9000000000000) (i : Nat) (hi : i < l.length) (M : Nat) (R : Bool) (x y : Int) (hR : ∀ k, M ≤ k → spec_MarksOk.l0 k l l (l.length : Int) ((i : Int) + 1) = some R) (e : Nat) :
    ∀ (k j : Nat), j + e = i → hadB l j x = false → M + e + 1 ≤ k → spec_MarksOk.l1 k l (i : Int) (j : Int) l (l.length : Int) (i : Int) x y = some (if hadB l i x = true then false else R) := by
  induction e with
  | zero =>
    intro k j hj hh hk
    obtain ⟨k, rfl⟩ : ∃ m, k = m + 1 := ⟨k - 1, by omega⟩
    obtain rfl : j = i := by omega
    simp only [spec_MarksOk.l1]
    rw [if_neg (by omega), w64 (a := (j : Int) + 1) (by omega), hR k (by omega), hh]
    rfl
  | succ e ih =>
    intro k j hj hh hk
    obtain ⟨k, rfl⟩ : ∃ m, k = m + 1 := ⟨k - 1, by omega⟩
    simp only [spec_MarksOk.l1]
    rw [if_pos (by omega), if_pos (by omega), if_pos (by omega), w64 (a := (j : Int) + 1) (by omega)]
    by_cases h : (rd_T37 l (j : Int)).f0 = x
    · rw [if_pos h]
      have : hadB l i x = true := by
        unfold hadB
        rw [List.any_eq_true]
        exact ⟨j, List.mem_range.2 (by omega), by rw [h]; simp⟩
      rw [this]
      rfl
    · rw [if_neg h]
      refine ih k (j + 1) (by omega) ?_ (by omega)
      rw [hadB_succ, hh]
      simp [h]
theorem spec_MarksOk_loop (l : List S37) (hn : l.length ≤ 9000000000000) (d : Nat) :
    ∀ (k i : Nat), i + d = l.length → d * (l.length + 3) + 1 ≤ k → (∀ j, j < i → okAt l j = true) → spec_MarksOk.l0 k l l (l.length : Int) (i : Int) = some (marksB l) := by
  induction d with
  | zero =>
    intro k i hi hk hok
    obtain ⟨k, rfl⟩ : ∃ m, k = m + 1 := ⟨k - 1, by omega⟩
    simp only [spec_MarksOk.l0]
    rw [if_neg (by omega)]
    unfold marksB
    have : (List.range l.length).all (okAt l) = true := by
      rw [List.all_eq_true]
      intro j hj
      exact hok j (by have := List.mem_range.1 hj; omega)
    rw [this, Bool.and_true]
    exact congrArg some (decide_eq_decide.2 (by omega))
  | succ d ih =>
    intro k i hi hk hok
    rw [Nat.succ_mul] at hk
    generalize hq : d * (l.length + 3) = q at hk ih
    obtain ⟨k, rfl⟩ : ∃ m, k = m + 2 := ⟨k - 2, by omega⟩
    have hil : i < l.length := by omega
    have fin : ∀ (b : Bool), (b = true → okAt l i = false) → (b = false → (decide (1 ≤ (rd_T37 l (i : Int)).f0 ∧ (rd_T37 l (i : Int)).f0 ≤ 1000000000) && decide (0 ≤ (rd_T37 l (i : Int)).f1 ∧ (rd_T37 l (i : Int)).f1 ≤ 100000000) && (decide (i = 0) || decide ((rd_T37 l ((i : Int) - 1)).f1 < (rd_T37 l (i : Int)).f1))) = true) →
        spec_MarksOk.j1 (k + 1) l (i : Int) l (l.length : Int) (i : Int) b (rd_T37 l (i : Int)).f0 (rd_T37 l (i : Int)).f1 = some (marksB l) := by
      intro b h1 h2
      simp only [spec_MarksOk.j1]
      cases b with
      | true => rw [if_pos rfl, marksB_false hil (h1 rfl)]
      | false =>
        rw [if_neg (by decide)]
        have hb := h2 rfl
        by_cases hh : hadB l i (rd_T37 l (i : Int)).f0 = true
        · have hm : marksB l = false := marksB_false hil (by unfold okAt; rw [hh]; simp)
          have := spec_MarksOk_inner l hn i hil k false (rd_T37 l (i : Int)).f0 (rd_T37 l (i : Int)).f1
          clear this
          -- a name that was had: the inner loop ends in false, whatever comes behind
          have ends : ∀ (e k' j : Nat), j + e = i → hadB l j (rd_T37 l (i : Int)).f0 = false → e + 1 ≤ k' → spec_MarksOk.l1 k' l (i : Int) (j : Int) l (l.length : Int) (i : Int) (rd_T37 l (i : Int)).f0 (rd_T37 l (i : Int)).f1 = some false := by
            intro e
            induction e with
            | zero =>
              intro k' j hj hnot _
              obtain rfl : j = i := by omega
              rw [hh] at hnot
              cases hnot
            | succ e ihe =>
              intro k' j hj hnot hk'
              obtain ⟨k', rfl⟩ : ∃ m, k' = m + 1 := ⟨k' - 1, by omega⟩
              simp only [spec_MarksOk.l1]
              rw [if_pos (by omega), if_pos (by omega), if_pos (by omega), w64 (a := (j : Int) + 1) (by omega)]
              by_cases h : (rd_T37 l (j : Int)).f0 = (rd_T37 l (i : Int)).f0
              · rw [if_pos h]
              · rw [if_neg h]
                refine ihe k' (j + 1) (by omega) ?_ (by omega)
                rw [hadB_succ, hnot]
                simp [h]
          rw [hm]
          exact ends i k 0 (by omega) (by simp [hadB]) (by omega)
        · have hh' : hadB l i (rd_T37 l (i : Int)).f0 = false := by simpa using hh
          have hok' : okAt l i = true := by
            unfold okAt
            rw [hh']
            simp only [Bool.and_eq_true] at hb ⊢
            exact ⟨⟨⟨hb.1.1, rfl⟩, hb.1.2⟩, hb.2⟩
          have := spec_MarksOk_inner l hn i hil (q + 1) (marksB l) (rd_T37 l (i : Int)).f0 (rd_T37 l (i : Int)).f1 (fun k' hk' => by
            have := ih k' (i + 1) (by omega) (by omega) (fun j hj => by
              rcases Nat.lt_or_ge j i with h | h
              · exact hok j h
              · obtain rfl : j = i := by omega
                exact hok')
            rwa [show ((i + 1 : Nat) : Int) = (i : Int) + 1 by omega] at this) i k 0 (by omega) (by simp [hadB]) (by omega)
          rw [hh', if_neg (by decide)] at this
          exact this
    simp only [spec_MarksOk.l0, spec_l1in_eq, Option.bind_some]
    rw [if_pos (by omega), if_pos (by omega), if_pos (by omega)]
    by_cases hat : 0 ≤ (rd_T37 l (i : Int)).f1 ∧ (rd_T37 l (i : Int)).f1 ≤ 100000000
    · rw [decide_eq_true hat, if_pos rfl]
      by_cases h0 : (i : Int) > 0
      · rw [if_pos h0, w64 (a := (i : Int) - 1) (by omega), if_pos (by omega), if_pos (by omega)]
        by_cases hp : (rd_T37 l (i : Int)).f1 ≤ (rd_T37 l ((i : Int) - 1)).f1
        · rw [if_pos hp]
          exact fin true (fun _ => by unfold okAt; rw [decide_eq_false (show ¬ i = 0 by omega), decide_eq_false (show ¬ (rd_T37 l ((i : Int) - 1)).f1 < (rd_T37 l (i : Int)).f1 by omega)]; simp) (fun h => by cases h)
        · rw [if_neg hp]
          refine fin _ (fun h => ?_) (fun h => ?_)
          · unfold okAt
            rw [show decide (1 ≤ (rd_T37 l (i : Int)).f0 ∧ (rd_T37 l (i : Int)).f0 ≤ 1000000000) = false by simpa only [Bool.not_eq_true'] using h]
            rfl
          · rw [decide_eq_true (show 1 ≤ (rd_T37 l (i : Int)).f0 ∧ (rd_T37 l (i : Int)).f0 ≤ 1000000000 by simpa using h), decide_eq_true hat, decide_eq_true (show (rd_T37 l ((i : Int) - 1)).f1 < (rd_T37 l (i : Int)).f1 by omega)]
            simp
      · rw [if_neg h0]
        refine fin _ (fun h => ?_) (fun h => ?_)
        · unfold okAt
          rw [show decide (1 ≤ (rd_T37 l (i : Int)).f0 ∧ (rd_T37 l (i : Int)).f0 ≤ 1000000000) = false by simpa only [Bool.not_eq_true'] using h]
          rfl
        · rw [decide_eq_true (show 1 ≤ (rd_T37 l (i : Int)).f0 ∧ (rd_T37 l (i : Int)).f0 ≤ 1000000000 by simpa using h), decide_eq_true hat, decide_eq_true (show i = 0 by omega)]
          rfl
    · rw [decide_eq_false hat, if_neg (by decide)]
      exact fin true (fun _ => by unfold okAt; rw [decide_eq_false hat]; simp) (fun h => by cases h)
theorem spec_MarksOk_eq (l : List S37) (hn : l.length ≤ 9000000000000) {k : Nat} (hk : l.length * (l.length + 3) + 1 ≤ k) : spec_MarksOk.f k l = some (marksB l) := by
  unfold spec_MarksOk.f
  exact spec_MarksOk_loop l hn l.length k 0 (by omega) hk (fun j hj => by omega)
/-- The rounds that suffice for a list of n marks. -/
def Kn (n : Nat) : Nat := n * (n + 3) + 2 * n + 300000
def stateB (l : List S37) (k : Bool) (a b since last odd : Int) : Bool :=
  marksB l && decide (-1 ≤ last ∧ last ≤ (l.length : Int) - 1) && decide (0 ≤ since ∧ since ≤ 1000000000) && decide (0 ≤ odd ∧ odd ≤ 1000000000) && (if k = true then decide (okB a b) else decide (a = 0 ∧ b = 0 ∧ last = -1))
theorem impl_StateOk_eq (l : List S37) (hn : l.length ≤ 9000000000000) (k : Bool) (a b since last odd : Int) : impl_StateOk.f l k a b since last odd = some (stateB l k a b since last odd) := by
  simp only [impl_StateOk.f, impl_MarksOk_eq, impl_in_eq, impl_BoundOk_eq, Option.bind_some, stateB]
  rw [w64 (a := (l.length : Int) - 1) (by omega)]
  cases marksB l with
  | false => rfl
  | true =>
    rw [if_pos rfl, Bool.true_and]
    by_cases h1 : -1 ≤ last ∧ last ≤ (l.length : Int) - 1
    · rw [decide_eq_true h1, if_pos rfl, Bool.true_and]
      by_cases h2 : 0 ≤ since ∧ since ≤ 1000000000
      · rw [decide_eq_true h2, if_pos rfl, Bool.true_and]
        by_cases h3 : 0 ≤ odd ∧ odd ≤ 1000000000
        · rw [decide_eq_true h3, if_pos rfl, Bool.true_and]
          cases k with
          | true =>
            rw [if_pos rfl, if_pos rfl]
            by_cases h4 : okB a b
            · rw [decide_eq_true h4]; rfl
            · rw [decide_eq_false h4]; rfl
          | false =>
            by_cases h4 : okB a b
            · rw [decide_eq_true h4, if_pos rfl]
              simp only [Bool.false_eq_true, if_false]
              split
              · rename_i h5
                have h5' : a = 0 ∧ b = 0 := by simpa using h5
                apply sd
                simp only [beq_iff_eq]
                omega
              · rename_i h5
                apply congrArg some
                rw [decide_eq_false (fun h => h5 (by simp [h.1, h.2.1]))]
            · rw [decide_eq_false h4]
              simp only [Bool.false_eq_true, if_false]
              apply congrArg some
              rw [decide_eq_false (fun h => h4 (by omega))]
        · rw [decide_eq_false h3]; rfl
      · rw [decide_eq_false h2]; rfl
    · rw [decide_eq_false h1]; rfl
theorem spec_StateOk_eq (l : List S37) (hn : l.length ≤ 9000000000000) (k : Bool) (a b since last odd : Int) {n : Nat} (hk : l.length * (l.length + 3) + 1 ≤ n) : spec_StateOk.f n l k a b since last odd = some (stateB l k a b since last odd) := by
  simp only [spec_StateOk.f, spec_MarksOk_eq l hn hk, spec_l1in_eq, Option.bind_some]
  obtain ⟨n, rfl⟩ : ∃ m, n = m + 1 := ⟨n - 1, by omega⟩
  simp only [spec_StateOk.j0, spec_BoundOk_eq, Option.bind_some, stateB]
  rw [w64 (a := (l.length : Int) - 1) (by omega)]
  cases marksB l with
  | false => rfl
  | true =>
    rw [if_pos rfl, Bool.true_and]
    by_cases h1 : -1 ≤ last ∧ last ≤ (l.length : Int) - 1
    · rw [decide_eq_true h1, if_pos rfl, Bool.true_and]
      by_cases h2 : 0 ≤ since ∧ since ≤ 1000000000
      · rw [decide_eq_true h2, if_pos rfl, Bool.true_and]
        by_cases h3 : 0 ≤ odd ∧ odd ≤ 1000000000
        · rw [decide_eq_true h3, Bool.true_and]
          cases k with
          | true => rfl
          | false =>
            simp only [Bool.not_true, Bool.false_eq_true, if_false]
            by_cases h5 : a = 0
            · by_cases h6 : b = 0
              · rw [if_pos h5, if_pos h6]
                apply sd
                simp only [beq_iff_eq]
                omega
              · rw [if_pos h5, if_neg h6, decide_eq_false (fun h => h6 h.2.1)]
            · rw [if_neg h5, decide_eq_false (fun h => h5 h.1)]
        · rw [decide_eq_false h3]; rfl
      · rw [decide_eq_false h2]; rfl
    · rw [decide_eq_false h1]; rfl
theorem wrap_u64 (n : Int) : IntKind.u64.wrap n = n % 18446744073709551616 := by simp [IntKind.wrap, IntKind.bits, IntKind.signed]
theorem and255 {x : Int} (h0 : 0 ≤ x) (h1 : x < 18446744073709551616) : Go.bits .and .u64 x 255 = x % 256 :=
  Go.bits_mask .u64 64 (by decide) (fun n h h' => by rw [wrap_u64]; omega) 8 (by decide) x h0 h1
theorem rd_byte {l : List Int} (hl : ∀ x ∈ l, (Lit.int .u8 x).wf = true) (i : Int) (h0 : 0 ≤ i) (h1 : i < (l.length : Int)) : 0 ≤ rd l i ∧ rd l i ≤ 255 := by
  have hi : i.toNat < l.length := by omega
  have e : rd l i = l[i.toNat] := by simp [rd, List.getD_eq_getElem?_getD, hi]
  have h := hl _ (List.getElem_mem hi)
  rw [← e] at h
  simp [Lit.wf, IntKind.min, IntKind.max, IntKind.signed, IntKind.bits] at h
  omega
theorem next_ok {l : List Int} (hl : ∀ x ∈ l, (Lit.int .u8 x).wf = true) (p s : Int) (h0 : 0 ≤ p) (h1 : p ≤ 1000000000) : ∃ v s', spec_l5Cur_next.f l p s = some (v, p + 1, s') ∧ 0 ≤ v ∧ v ≤ 255 := by
  unfold spec_l5Cur_next.f
  rw [w64 (a := p + 1) (by omega)]
  by_cases h : p < (l.length : Int)
  · rw [if_pos h, if_pos h0]
    have hb := rd_byte hl p h0 h
    rw [w64 (a := rd l p) (by omega)]
    exact ⟨_, _, rfl, hb.1, hb.2⟩
  · rw [if_neg h]
    have hq : 0 ≤ IntKind.u64.wrap ((IntKind.u64.wrap (s * 6364136223846793005)) + 1442695040888963407) / 1099511627776 ∧ IntKind.u64.wrap ((IntKind.u64.wrap (s * 6364136223846793005)) + 1442695040888963407) / 1099511627776 < 18446744073709551616 := by
      rw [wrap_u64 (IntKind.u64.wrap (s * 6364136223846793005) + 1442695040888963407)]
      generalize IntKind.u64.wrap (s * 6364136223846793005) + 1442695040888963407 = q
      omega
    generalize IntKind.u64.wrap ((IntKind.u64.wrap (s * 6364136223846793005)) + 1442695040888963407) / 1099511627776 = q at hq ⊢
    rw [and255 hq.1 hq.2, w64 (a := q % 256) (by omega)]
    exact ⟨_, _, rfl, by omega, by omega⟩
theorem pick_ok {l : List Int} (hl : ∀ x ∈ l, (Lit.int .u8 x).wf = true) (p s : Int) (h0 : 0 ≤ p) (h1 : p ≤ 1000000000) (n : Int) (hn : 1 < n) (hn2 : n ≤ 200) :
    ∃ v p' s', spec_l5Cur_pick.f l p s n = some (v, p', s') ∧ (0 ≤ v ∧ v < n) ∧ p ≤ p' ∧ p' ≤ p + 2 := by
  unfold spec_l5Cur_pick.f
  obtain ⟨v, s', e, hv⟩ := next_ok hl p s h0 h1
  rw [if_neg (by omega), e]
  simp only [Option.bind_some]
  rw [if_neg (by omega), if_neg (by omega), Int.tmod_eq_emod_of_nonneg hv.1]
  exact ⟨_, _, _, rfl, ⟨Int.emod_nonneg _ (by omega), Int.emod_lt_of_pos _ (by omega)⟩, by omega, by omega⟩
theorem wide_ok {l : List Int} (hl : ∀ x ∈ l, (Lit.int .u8 x).wf = true) (p s : Int) (h0 : 0 ≤ p) (h1 : p ≤ 900000000) (n : Int) (hn : 0 < n) :
    ∃ v p' s', spec_l5Cur_wide.f l p s n = some (v, p', s') ∧ (0 ≤ v ∧ v < n) ∧ p ≤ p' ∧ p' ≤ p + 2 := by
  unfold spec_l5Cur_wide.f
  obtain ⟨v, s', e, hv⟩ := next_ok hl p s h0 (by omega)
  obtain ⟨u, s2, e2, hu⟩ := next_ok hl (p + 1) s' (by omega) (by omega)
  rw [e]
  simp only [Option.bind_some]
  rw [e2]
  simp only [Option.bind_some]
  rw [if_neg (by omega), w64 (a := v * 256) (by omega), w64 (a := v * 256 + u) (by omega), Int.tmod_eq_emod_of_nonneg (by omega)]
  exact ⟨_, _, _, rfl, ⟨Int.emod_nonneg _ (by omega), Int.emod_lt_of_pos _ (by omega)⟩, by omega, by omega⟩
theorem rules_ok {l : List Int} (hl : ∀ x ∈ l, (Lit.int .u8 x).wf = true) (p s : Int) (h0 : 0 ≤ p) (h1 : p ≤ 100000000) :
    ∃ sl j m lg lo p' s', spec_l5Cur_rules.f l p s = some (sl, j, m, lg, lo, p', s') ∧ (0 ≤ sl ∧ sl < 80) ∧ (0 ≤ j ∧ j < 6) ∧ (0 ≤ m ∧ m < 30) ∧ (1 ≤ lg ∧ lg ≤ 400) ∧ (0 ≤ lo ∧ lo < 20) ∧ p ≤ p' ∧ p' ≤ p + 12 := by
  unfold spec_l5Cur_rules.f
  obtain ⟨a1, p1, s1, e1, b1, c1⟩ := pick_ok hl p s h0 (by omega) 80 (by omega) (by omega)
  obtain ⟨a2, p2, s2, e2, b2, c2⟩ := pick_ok hl p1 s1 (by omega) (by omega) 6 (by omega) (by omega)
  obtain ⟨a3, p3, s3, e3, b3, c3⟩ := pick_ok hl p2 s2 (by omega) (by omega) 30 (by omega) (by omega)
  obtain ⟨a4, p4, s4, e4, b4, c4⟩ := wide_ok hl p3 s3 (by omega) (by omega) 400 (by omega)
  obtain ⟨a5, p5, s5, e5, b5, c5⟩ := pick_ok hl p4 s4 (by omega) (by omega) 20 (by omega) (by omega)
  obtain ⟨a6, p6, s6, e6, b6, c6⟩ := pick_ok hl p5 s5 (by omega) (by omega) 5 (by omega) (by omega)
  simp only [e1, e2, e3, e4, e5, e6, Option.bind_some]
  rw [w64 (a := 1 + a4) (by omega)]
  split
  · exact ⟨_, _, _, _, _, _, _, rfl, by omega, b2, b3, by omega, b5, by omega, by omega⟩
  · exact ⟨_, _, _, _, _, _, _, rfl, b1, b2, b3, by omega, b5, by omega, by omega⟩
theorem wByte_ok {l : List Int} (hl : ∀ x ∈ l, (Lit.int .u8 x).wf = true) (i : Int) (h0 : 0 ≤ i) : ∃ v, laws_wByte.f l i = some v ∧ 0 ≤ v ∧ v ≤ 255 := by
  unfold laws_wByte.f
  by_cases h : (l.length : Int) = 0
  · rw [if_pos h]
    exact ⟨0, rfl, by omega, by omega⟩
  · rw [if_neg h, Int.tmod_eq_emod_of_nonneg h0]
    have h1 := Int.emod_nonneg i h
    have h2 := Int.emod_lt_of_pos i (show 0 < (l.length : Int) by omega)
    have hb := rd_byte hl _ h1 h2
    rw [if_pos h1, if_pos h2, w64 (by omega)]
    exact ⟨_, rfl, hb⟩
/-- Marks as they are drawn: places rise, names fall. -/
def Drawn (ms : List S37) : Prop := ms.length ≤ 7 ∧ ms.Pairwise (fun x y => x.f1 < y.f1 ∧ y.f0 < x.f0) ∧ ∀ x ∈ ms, (1 ≤ x.f0 ∧ x.f0 ≤ 1000) ∧ (0 ≤ x.f1 ∧ x.f1 ≤ 6000)
theorem marks_loop {l : List Int} (hl : ∀ x ∈ l, (Lit.int .u8 x).wf = true) (d : Nat) : ∀ (k : Nat) (acc : List S37) (at_ c p s : Int), c = d → d < k → (acc.length : Int) + c ≤ 7 → 0 ≤ at_ → at_ ≤ 300 + 700 * (acc.length : Int) →
    0 ≤ p → p ≤ 10000000 + 4 * (acc.length : Int) → acc.Pairwise (fun x y => x.f1 < y.f1 ∧ y.f0 < x.f0) → (∀ x ∈ acc, (1 ≤ x.f0 ∧ x.f0 ≤ 1000) ∧ (0 ≤ x.f1 ∧ x.f1 ≤ 6000) ∧ x.f1 < at_ ∧ 7 * c + 4 < x.f0) →
    ∃ ms p' s', spec_l5Cur_marks.l0 k acc at_ c l p s = some (ms, p', s') ∧ Drawn ms ∧ 0 ≤ p' ∧ p' ≤ 10000100 := by
  induction d with
  | zero =>
    intro k acc at_ c p s hc hk hlen ha ha2 hp hp2 hpw hall
    obtain ⟨k, rfl⟩ : ∃ m, k = m + 1 := ⟨k - 1, by omega⟩
    simp only [spec_l5Cur_marks.l0]
    rw [if_neg (by omega)]
    exact ⟨_, _, _, rfl, ⟨by omega, hpw, fun x hx => ⟨(hall x hx).1, (hall x hx).2.1⟩⟩, by omega, by omega⟩
  | succ d ih =>
    intro k acc at_ c p s hc hk hlen ha ha2 hp hp2 hpw hall
    obtain ⟨k, rfl⟩ : ∃ m, k = m + 1 := ⟨k - 1, by omega⟩
    simp only [spec_l5Cur_marks.l0]
    obtain ⟨a1, p1, s1, e1, b1, c1⟩ := pick_ok hl p s hp (by omega) 3 (by omega) (by omega)
    obtain ⟨a2, p2, s2, e2, b2, c2⟩ := wide_ok hl p1 s1 (by omega) (by omega) 600 (by omega)
    rw [if_pos (by omega), e1]
    simp only [Option.bind_some]
    rw [if_pos (by omega), e2]
    simp only [Option.bind_some]
    rw [w64 (a := 7 * c) (by omega), w64 (a := 1 + 7 * c) (by omega), w64 (a := 1 + 7 * c + a1) (by omega), w64 (a := 1 + a2) (by omega), w64 (a := at_ + (1 + a2)) (by omega), w64 (a := c - 1) (by omega)]
    refine ih k _ _ _ _ _ (by omega) (by omega) (by simp; omega) (by omega) (by simp; omega) (by omega) (by simp; omega) ?_ ?_
    · rw [List.pairwise_append]
      refine ⟨hpw, by simp, fun x hx y hy => ?_⟩
      rw [List.mem_singleton] at hy
      subst hy
      have := hall x hx
      exact ⟨this.2.2.1, by show 1 + 7 * c + a1 < x.f0; omega⟩
    · intro x hx
      rcases List.mem_append.1 hx with hx | hx
      · have := hall x hx
        exact ⟨this.1, this.2.1, by omega, by omega⟩
      · rw [List.mem_singleton] at hx
        subst hx
        refine ⟨⟨?_, ?_⟩, ⟨?_, ?_⟩, ?_, ?_⟩ <;> dsimp only <;> omega
theorem marks_ok {l : List Int} (hl : ∀ x ∈ l, (Lit.int .u8 x).wf = true) (p s : Int) (h0 : 0 ≤ p) (h1 : p ≤ 1000000) {k : Nat} (hk : 8 ≤ k) :
    ∃ ms p' s', spec_l5Cur_marks.f k l p s = some (ms, p', s') ∧ Drawn ms ∧ 0 ≤ p' ∧ p' ≤ 10000100 := by
  unfold spec_l5Cur_marks.f
  obtain ⟨a1, p1, s1, e1, b1, c1⟩ := wide_ok hl p s h0 (by omega) 300 (by omega)
  obtain ⟨a2, p2, s2, e2, b2, c2⟩ := pick_ok hl p1 s1 (by omega) (by omega) 8 (by omega) (by omega)
  simp only [e1, e2, Option.bind_some]
  exact marks_loop hl a2.toNat k [] a1 a2 p2 s2 (by omega) (by omega) (by simp; omega) (by omega) (by simp; omega) (by omega) (by simp; omega) (by simp) (by simp)
theorem known_ok {l : List Int} (hl : ∀ x ∈ l, (Lit.int .u8 x).wf = true) {k : Nat} (hk : 8 ≤ k) :
    ∃ sl j m lg lo ms a b, spec_Known.f k l = some (sl, j, m, lg, lo, ms, true, a, b, 0, (-1), 0) ∧ ((0 ≤ sl ∧ sl < 80) ∧ (0 ≤ j ∧ j < 6) ∧ (0 ≤ m ∧ m < 30) ∧ (1 ≤ lg ∧ lg ≤ 400) ∧ (0 ≤ lo ∧ lo < 20)) ∧ Drawn ms ∧ 0 ≤ a ∧ a < 3000 ∧ a ≤ b ∧ b < a + 400 := by
  unfold spec_Known.f
  obtain ⟨sl, j, m, lg, lo, p1, s1, e1, r1, r2, r3, r4, r5, q1, q2⟩ := rules_ok hl 0 0 (by omega) (by omega)
  obtain ⟨ms, p2, s2, e2, hm, q3, q4⟩ := marks_ok hl p1 s1 (by omega) (by omega) hk
  obtain ⟨a, p3, s3, e3, b3, c3⟩ := wide_ok hl p2 s2 (by omega) (by omega) 3000 (by omega)
  obtain ⟨b, p4, s4, e4, b4, c4⟩ := wide_ok hl p3 s3 (by omega) (by omega) 400 (by omega)
  simp only [e1, e2, e3, e4, Option.bind_some]
  rw [w64 (a := a + b) (by omega)]
  exact ⟨_, _, _, _, _, _, _, _, rfl, ⟨r1, r2, r3, r4, r5⟩, hm, by omega, by omega, by omega, by omega⟩
theorem drawn_rd {ms : List S37} (h : Drawn ms) {i : Nat} (hi : i < ms.length) : (1 ≤ (rd_T37 ms (i : Int)).f0 ∧ (rd_T37 ms (i : Int)).f0 ≤ 1000) ∧ (0 ≤ (rd_T37 ms (i : Int)).f1 ∧ (rd_T37 ms (i : Int)).f1 ≤ 6000) := by
  have e : rd_T37 ms (i : Int) = ms[i] := by simp [rd_T37, List.getD_eq_getElem?_getD, hi]
  rw [e]
  exact h.2.2 _ (List.getElem_mem hi)
theorem drawn_lt {ms : List S37} (h : Drawn ms) {i j : Nat} (hij : i < j) (hj : j < ms.length) : (rd_T37 ms (i : Int)).f1 < (rd_T37 ms (j : Int)).f1 ∧ (rd_T37 ms (j : Int)).f0 < (rd_T37 ms (i : Int)).f0 := by
  have ei : rd_T37 ms (i : Int) = ms[i]'(by omega) := by simp [rd_T37, List.getD_eq_getElem?_getD, show i < ms.length by omega]
  have ej : rd_T37 ms (j : Int) = ms[j] := by simp [rd_T37, List.getD_eq_getElem?_getD, hj]
  rw [ei, ej]
  exact List.pairwise_iff_getElem.1 h.2.1 i j (by omega) hj hij
theorem drawn_marks {ms : List S37} (h : Drawn ms) : marksB ms = true := by
  have hlen := h.1
  unfold marksB
  rw [decide_eq_true (by omega), Bool.true_and, List.all_eq_true]
  intro i hi
  rw [List.mem_range] at hi
  have hr := drawn_rd h hi
  unfold okAt
  have hh : hadB ms i (rd_T37 ms (i : Int)).f0 = false := by
    unfold hadB
    rw [List.any_eq_false]
    intro j hj
    rw [List.mem_range] at hj
    have := (drawn_lt h hj hi).2
    simp only [beq_iff_eq]
    omega
  rw [hh, decide_eq_true (show 1 ≤ (rd_T37 ms (i : Int)).f0 ∧ (rd_T37 ms (i : Int)).f0 ≤ 1000000000 by omega), decide_eq_true (show 0 ≤ (rd_T37 ms (i : Int)).f1 ∧ (rd_T37 ms (i : Int)).f1 ≤ 100000000 by omega)]
  by_cases h0 : i = 0
  · rw [decide_eq_true h0]
    rfl
  · have hp := (drawn_lt h (i := i - 1) (j := i) (by omega) hi).1
    rw [show ((i - 1 : Nat) : Int) = (i : Int) - 1 by omega] at hp
    rw [decide_eq_true hp]
    simp
/-- What a mark that was found, the i-th, at x, makes of a state. -/
def hitV (s j m l o x i : Int) (kn : Bool) (a b odd : Int) : Bool × Int × Int × Int × Int × Int :=
  if kn = true then (true, (readV s j m l o a b x).1, (readV s j m l o a b x).2, 0, i, if a ≤ stay (x + m) ∧ stay (x - m) ≤ b then odd else mn (odd + 1) 1000000000)
  else (true, stay (x - m), stay (x + m), 0, i, odd)
/-- What an event makes of a state. -/
def doV (s j m l o : Int) (ms : List S37) (kn : Bool) (a b since last odd op n : Int) : Bool × Int × Int × Int × Int × Int :=
  if op = 1 then (if kn = true then (kn, (wheelV s j m l o a b n).1, (wheelV s j m l o a b n).2, mn (since + n) 1000000000, last, odd) else (kn, a, b, mn (since + n) 1000000000, last, odd))
  else if op = 2 then (match ms.findIdx? (fun x => x.f0 == n) with | some i => hitV s j m l o (rd_T37 ms (i : Int)).f1 i kn a b odd | none => (kn, a, b, since, last, mn (odd + 1) 1000000000))
  else if op = 4 then (false, 0, 0, 0, -1, odd) else (kn, a, b, since, last, odd)
theorem rdMk (xs : List S37) (i : Nat) (h : i < xs.length) : rd_T37 xs (i : Int) = xs[i] := by
  simp [rd_T37, List.getD_eq_getElem?_getD, h]
theorem find_some (ms : List S37) (n : Int) (i : Nat) (hi : i < ms.length) (h : (rd_T37 ms (i : Int)).f0 = n) (hb : ∀ j : Nat, j < i → (rd_T37 ms (j : Int)).f0 ≠ n) : ms.findIdx? (fun x => x.f0 == n) = some i := by
  rw [List.findIdx?_eq_some_iff_getElem]
  refine ⟨hi, by rw [rdMk ms i hi] at h; simpa using h, fun j hj => ?_⟩
  have := hb j hj
  rw [rdMk ms j (by omega)] at this
  simpa using this
theorem find_none (ms : List S37) (n : Int) (hb : ∀ j : Nat, j < ms.length → (rd_T37 ms (j : Int)).f0 ≠ n) : ms.findIdx? (fun x => x.f0 == n) = none := by
  rw [List.findIdx?_eq_none_iff]
  intro x hx
  obtain ⟨j, hj, rfl⟩ := List.getElem_of_mem hx
  have := hb j hj
  rw [rdMk ms j hj] at this
  simpa using this
theorem find_lt (ms : List S37) (n : Int) (i : Nat) (h : ms.findIdx? (fun x => x.f0 == n) = some i) : i < ms.length ∧ (rd_T37 ms (i : Int)).f0 = n := by
  rw [List.findIdx?_eq_some_iff_getElem] at h
  obtain ⟨hi, h1, _⟩ := h
  exact ⟨hi, by rw [rdMk ms i hi]; simpa using h1⟩
theorem marks_ne {ms : List S37} (h : marksB ms = true) {i j : Nat} (hij : i < j) (hj : j < ms.length) : (rd_T37 ms (i : Int)).f0 ≠ (rd_T37 ms (j : Int)).f0 := by
  have hk := okAt_of h hj
  unfold okAt at hk
  simp only [Bool.and_eq_true] at hk
  have hh : hadB ms j (rd_T37 ms (j : Int)).f0 = false := by simpa using hk.1.1.2
  unfold hadB at hh
  rw [List.any_eq_false] at hh
  have := hh i (List.mem_range.2 hij)
  simpa using this
theorem impl_do_loop {s j m l o : Int} (hm : 0 ≤ m ∧ m ≤ 10000) (ms : List S37) (hms : marksB ms = true) (kn : Bool) (a b since last odd op n : Int) (ho : 0 ≤ odd ∧ odd ≤ 1000000000) (hop : op = 2) (d : Nat) :
    ∀ (k i : Nat), i + d = ms.length → d + 1 < k → (∀ j : Nat, j < i → (rd_T37 ms (j : Int)).f0 ≠ n) → impl_do.l0 k ms (ms.length : Int) (i : Int) s j m l o kn a b since last odd op n = some (doV s j m l o ms kn a b since last odd op n) := by
  have hml := marks_len hms
  induction d with
  | zero =>
    intro k i hi hk hb
    obtain ⟨k, rfl⟩ : ∃ q, k = q + 1 := ⟨k - 1, by omega⟩
    simp only [impl_do.l0]
    rw [if_neg (by omega), w64 (a := odd + 1) (by omega)]
    unfold doV
    rw [if_neg (by omega), if_pos hop, find_none ms n (fun j hj => hb j (by omega))]
  | succ d ih =>
    intro k i hi hk hb
    obtain ⟨k, rfl⟩ : ∃ q, k = q + 1 := ⟨k - 1, by omega⟩
    have hil : i < ms.length := by omega
    have hx := (okAt_range (okAt_of hms hil)).2
    simp only [impl_do.l0]
    rw [if_pos (by omega), if_pos (by omega), if_pos (by omega), w64 (a := (i : Int) + 1) (by omega), w64 (a := odd + 1) (by omega)]
    by_cases h : (rd_T37 ms (i : Int)).f0 = n
    · rw [if_pos h, impl_own_eq hm hx]
      unfold doV
      rw [if_neg (show ¬ op = 1 by omega), if_pos hop, find_some ms n i hil h hb]
      simp only [Option.bind_some, impl_Meets_eq, impl_Read_eq s j m l o a b _ (show 1 ≤ k by omega), decide_eq_true_eq, hitV]
      cases kn with
      | false => rfl
      | true =>
        rw [if_pos rfl, if_pos rfl]
        by_cases h2 : a ≤ stay ((rd_T37 ms (i : Int)).f1 + m) ∧ stay ((rd_T37 ms (i : Int)).f1 - m) ≤ b
        · rw [if_pos ⟨h2.2, h2.1⟩, if_pos h2]
        · rw [if_neg (fun q => h2 ⟨q.2, q.1⟩), if_neg h2]
    · rw [if_neg h]
      have := ih k (i + 1) (by omega) (by omega) (fun j hj => by
        rcases Nat.lt_or_ge j i with q | q
        · exact hb j q
        · obtain rfl : j = i := by omega
          exact h)
      rwa [show ((i + 1 : Nat) : Int) = (i : Int) + 1 by omega] at this
theorem impl_do_eq {s j m l o : Int} (hm : 0 ≤ m ∧ m ≤ 10000) (ms : List S37) (hms : marksB ms = true) (kn : Bool) (a b since last odd op n : Int) (hs : 0 ≤ since ∧ since ≤ 1000000000) (ho : 0 ≤ odd ∧ odd ≤ 1000000000) (he : okE op n) {k : Nat} (hk : 102 ≤ k) :
    impl_do.f k s j m l o ms kn a b since last odd op n = some (doV s j m l o ms kn a b since last odd op n) := by
  have hml := marks_len hms
  unfold impl_do.f
  by_cases h1 : op = 1
  · rw [if_pos h1, w64 (a := since + n) (by omega), impl_Wheel_eq s j m l o a b n (show 1 ≤ k by omega)]
    unfold doV
    rw [if_pos h1]
    cases kn <;> rfl
  · rw [if_neg h1]
    by_cases h2 : op = 2
    · rw [if_pos h2]
      exact impl_do_loop hm ms hms kn a b since last odd op n ho h2 ms.length k 0 (by omega) (by omega) (fun j hj => absurd hj (by omega))
    · rw [if_neg h2]
      unfold doV
      rw [if_neg h1, if_neg h2]
      split <;> rfl
theorem stateB_of {ms : List S37} {kn : Bool} {a b since last odd : Int} (h : stateB ms kn a b since last odd = true) :
    marksB ms = true ∧ (-1 ≤ last ∧ last ≤ (ms.length : Int) - 1) ∧ (0 ≤ since ∧ since ≤ 1000000000) ∧ (0 ≤ odd ∧ odd ≤ 1000000000) ∧ (kn = true → okB a b) ∧ (kn = false → a = 0 ∧ b = 0 ∧ last = -1) := by
  unfold stateB at h
  simp only [Bool.and_eq_true, decide_eq_true_eq] at h
  obtain ⟨⟨⟨⟨h1, h2⟩, h3⟩, h4⟩, h5⟩ := h
  refine ⟨h1, h2, h3, h4, fun q => ?_, fun q => ?_⟩
  · subst q
    exact of_decide_eq_true h5
  · subst q
    exact of_decide_eq_true h5
theorem stateB_mk {ms : List S37} {kn : Bool} {a b since last odd : Int} (h1 : marksB ms = true) (h2 : -1 ≤ last ∧ last ≤ (ms.length : Int) - 1) (h3 : 0 ≤ since ∧ since ≤ 1000000000) (h4 : 0 ≤ odd ∧ odd ≤ 1000000000) (h5 : kn = true → okB a b) (h6 : kn = false → a = 0 ∧ b = 0 ∧ last = -1) : stateB ms kn a b since last odd = true := by
  unfold stateB
  rw [h1, decide_eq_true h2, decide_eq_true h3, decide_eq_true h4]
  cases kn with
  | true => rw [if_pos rfl, decide_eq_true (h5 rfl)]; rfl
  | false => rw [if_neg (by decide), decide_eq_true (h6 rfl)]; rfl
theorem wheel_okB {s j m l o a b c : Int} (hr : okR s j m l o) (hb : okB a b) (hc : 0 ≤ c ∧ c ≤ 100000) : okB (wheelV s j m l o a b c).1 (wheelV s j m l o a b c).2 := by
  have hl := lst_le (s := s) (j := j) (c := c) (by omega) (by omega) hc.1
  have hl0 := lst_nonneg (s := s) (j := j) (c := c) (by omega)
  have hm0 := le_mst (s := s) (j := j) (c := c) (by omega) (by omega) (by omega) hc.1
  unfold wheelV
  rw [if_pos ⟨hr, hb, hc⟩]
  dsimp only [okB, stay]
  omega
theorem read_okB {s j m l o a b x : Int} (hr : okR s j m l o) (hb : okB a b) (hx : 0 ≤ x ∧ x ≤ 100000000) : okB (readV s j m l o a b x).1 (readV s j m l o a b x).2 := by
  unfold readV
  rw [if_pos ⟨hr, hb, hx⟩]
  split
  · rename_i h
    simp only [stay] at h
    dsimp only [okB, stay]
    omega
  · dsimp only [okB, stay]
    omega
theorem mn_rg {a : Int} (h : 0 ≤ a ∧ a ≤ 2000000000) : 0 ≤ mn a 1000000000 ∧ mn a 1000000000 ≤ 1000000000 := by
  unfold mn
  split <;> omega
/-- A right state stays one. -/
theorem do_state {s j m l o : Int} (hr : okR s j m l o) {ms : List S37} {kn : Bool} {a b since last odd op n : Int} (h : stateB ms kn a b since last odd = true) (he : okE op n) :
    stateB ms (doV s j m l o ms kn a b since last odd op n).1 (doV s j m l o ms kn a b since last odd op n).2.1 (doV s j m l o ms kn a b since last odd op n).2.2.1 (doV s j m l o ms kn a b since last odd op n).2.2.2.1 (doV s j m l o ms kn a b since last odd op n).2.2.2.2.1 (doV s j m l o ms kn a b since last odd op n).2.2.2.2.2 = true := by
  obtain ⟨h1, h2, h3, h4, h5, h6⟩ := stateB_of h
  unfold doV
  by_cases e1 : op = 1
  · rw [if_pos e1]
    split
    · rename_i hk
      exact stateB_mk h1 h2 (mn_rg (by omega)) h4 (fun _ => wheel_okB hr (h5 hk) (by omega)) (fun q => by rw [hk] at q; cases q)
    · rename_i hk
      exact stateB_mk h1 h2 (mn_rg (by omega)) h4 (fun q => absurd q hk) h6
  · rw [if_neg e1]
    by_cases e2 : op = 2
    · rw [if_pos e2]
      split
      · rename_i i hf
        have hi := (find_lt ms n i hf).1
        have hx := (okAt_range (okAt_of h1 hi)).2
        unfold hitV
        split
        · rename_i hk
          refine stateB_mk h1 (by dsimp only; omega) (by dsimp only; omega) ?_ (fun _ => read_okB hr (h5 hk) hx) (fun q => by cases q)
          dsimp only
          split
          · exact h4
          · exact mn_rg (by omega)
        · exact stateB_mk h1 (by dsimp only; omega) (by dsimp only; omega) h4 (fun _ => by dsimp only [okB, stay]; omega) (fun q => by cases q)
      · exact stateB_mk h1 h2 h3 (mn_rg (by omega)) h5 h6
    · rw [if_neg e2]
      split
      · exact stateB_mk h1 (by dsimp only; omega) (by dsimp only; omega) h4 (fun q => by cases q) (fun _ => ⟨rfl, rfl, rfl⟩)
      · exact h
theorem impl_Do_eq (s j m l o : Int) (ms : List S37) (hn : ms.length ≤ 9000000000000) (kn : Bool) (a b since last odd op n : Int) {k : Nat} (hk : 102 ≤ k) :
    impl_Do.f k s j m l o ms kn a b since last odd op n = some (if okR s j m l o ∧ stateB ms kn a b since last odd = true ∧ okE op n then doV s j m l o ms kn a b since last odd op n else (false, 0, 0, 0, 0, 0)) := by
  simp only [impl_Do.f, impl_RulesOk_eq, impl_StateOk_eq ms hn, impl_EventOk_eq, Option.bind_some, decide_eq_true_eq]
  by_cases hr : okR s j m l o
  · rw [if_pos hr]
    by_cases hst : stateB ms kn a b since last odd = true
    · rw [if_pos hst]
      by_cases he : okE op n
      · have hq := stateB_of hst
        rw [if_pos he, if_pos (show okR s j m l o ∧ stateB ms kn a b since last odd = true ∧ okE op n from ⟨hr, hst, he⟩), impl_do_eq (by omega) ms hq.1 kn a b since last odd op n hq.2.2.1 hq.2.2.2.1 he hk]
        rfl
      · rw [if_neg he, if_neg (show ¬ (okR s j m l o ∧ stateB ms kn a b since last odd = true ∧ okE op n) from fun h => he h.2.2)]
    · rw [if_neg hst, if_neg (show ¬ (okR s j m l o ∧ stateB ms kn a b since last odd = true ∧ okE op n) from fun h => hst h.2.1)]
  · rw [if_neg hr, if_neg (show ¬ (okR s j m l o ∧ stateB ms kn a b since last odd = true ∧ okE op n) from fun h => hr h.1)]
theorem spec_l2least_eq (a b : Int) : spec_l2least.f a b = some (mn a b) := by
  unfold spec_l2least.f mn
  split <;> rfl
theorem spec_Do_tail {s j m l o : Int} (hr : okR s j m l o) (ms : List S37) (hms : marksB ms = true) (kn : Bool) (a b since last odd op n : Int) (ho : 0 ≤ odd ∧ odd ≤ 1000000000) (i0 : Nat) (hi0 : i0 < ms.length) (hn : (rd_T37 ms (i0 : Int)).f0 = n) (d : Nat) :
    ∀ (k i : Nat), i + d = ms.length → i0 < i → d + 5 ≤ k → spec_Do.l0 k ms (i0 : Int) ms (ms.length : Int) (i : Int) s j m l o kn a b since last odd op n = some (hitV s j m l o (rd_T37 ms (i0 : Int)).f1 (i0 : Int) kn a b odd) := by
  have hml := marks_len hms
  induction d with
  | zero =>
    intro k i hi hii hk
    obtain ⟨k, rfl⟩ : ∃ q, k = q + 1 := ⟨k - 1, by omega⟩
    have hx := (okAt_range (okAt_of hms hi0)).2
    simp only [spec_Do.l0]
    rw [if_neg (by omega), if_neg (by omega), if_pos (by omega), if_pos (by omega)]
    generalize (rd_T37 ms (i0 : Int)).f1 = x at hx
    rw [w64 (a := x - m) (by omega), w64 (a := x + m) (by omega), w64 (a := odd + 1) (by omega), spec_l1clip_eq (by omega) (by omega) (by omega)]
    simp only [Option.bind_some, spec_Meets_eq, spec_Read_eq s j m l o a b x (show 3 ≤ k by omega), spec_l2least_eq, decide_eq_true_eq, hitV]
    cases kn with
    | false => rfl
    | true =>
      rw [if_pos rfl, if_pos rfl]
      split <;> rfl
  | succ d ih =>
    intro k i hi hii hk
    obtain ⟨k, rfl⟩ : ∃ q, k = q + 1 := ⟨k - 1, by omega⟩
    simp only [spec_Do.l0]
    have hne := marks_ne hms hii (show i < ms.length by omega)
    rw [hn] at hne
    rw [if_pos (by omega), if_pos (by omega), if_pos (by omega), w64 (a := (i : Int) + 1) (by omega), if_neg (fun h => hne h.symm)]
    have := ih k (i + 1) (by omega) (by omega) (by omega)
    rwa [show ((i + 1 : Nat) : Int) = (i : Int) + 1 by omega] at this
theorem spec_Do_loop {s j m l o : Int} (hr : okR s j m l o) (ms : List S37) (hms : marksB ms = true) (kn : Bool) (a b since last odd op n : Int) (ho : 0 ≤ odd ∧ odd ≤ 1000000000) (hop : op = 2) (d : Nat) :
    ∀ (k i : Nat), i + d = ms.length → d + 5 ≤ k → (∀ j : Nat, j < i → (rd_T37 ms (j : Int)).f0 ≠ n) → spec_Do.l0 k ms (-1) ms (ms.length : Int) (i : Int) s j m l o kn a b since last odd op n = some (doV s j m l o ms kn a b since last odd op n) := by
  have hml := marks_len hms
  induction d with
  | zero =>
    intro k i hi hk hb
    obtain ⟨k, rfl⟩ : ∃ q, k = q + 1 := ⟨k - 1, by omega⟩
    simp only [spec_Do.l0]
    rw [if_neg (by omega), if_pos (by omega), w64 (a := odd + 1) (by omega), spec_l2least_eq]
    unfold doV
    rw [if_neg (by omega), if_pos hop, find_none ms n (fun j hj => hb j (by omega))]
    rfl
  | succ d ih =>
    intro k i hi hk hb
    obtain ⟨k, rfl⟩ : ∃ q, k = q + 1 := ⟨k - 1, by omega⟩
    have hil : i < ms.length := by omega
    simp only [spec_Do.l0]
    rw [if_pos (by omega), if_pos (by omega), if_pos (by omega), w64 (a := (i : Int) + 1) (by omega)]
    by_cases h : (rd_T37 ms (i : Int)).f0 = n
    · rw [if_pos h]
      have := spec_Do_tail hr ms hms kn a b since last odd op n ho i hil h d k (i + 1) (by omega) (by omega) (by omega)
      rw [show ((i + 1 : Nat) : Int) = (i : Int) + 1 by omega] at this
      rw [this]
      unfold doV
      rw [if_neg (show ¬ op = 1 by omega), if_pos hop, find_some ms n i hil h hb]
    · rw [if_neg h]
      have := ih k (i + 1) (by omega) (by omega) (fun j hj => by
        rcases Nat.lt_or_ge j i with q | q
        · exact hb j q
        · obtain rfl : j = i := by omega
          exact h)
      rwa [show ((i + 1 : Nat) : Int) = (i : Int) + 1 by omega] at this
theorem spec_Do_eq (s j m l o : Int) (ms : List S37) (hn : ms.length ≤ 9000000000000) (kn : Bool) (a b since last odd op n : Int) {k : Nat} (hk : ms.length * (ms.length + 3) + 300000 ≤ k) :
    spec_Do.f k s j m l o ms kn a b since last odd op n = some (if okR s j m l o ∧ stateB ms kn a b since last odd = true ∧ okE op n then doV s j m l o ms kn a b since last odd op n else (false, 0, 0, 0, 0, 0)) := by
  simp only [spec_Do.f, spec_RulesOk_eq, spec_StateOk_eq ms hn _ _ _ _ _ _ (show ms.length * (ms.length + 3) + 1 ≤ k by omega), spec_EventOk_eq, Option.bind_some, decide_eq_true_eq]
  obtain ⟨k, rfl⟩ : ∃ q, k = q + 1 := ⟨k - 1, by omega⟩
  simp only [spec_Do.j0]
  by_cases hr : okR s j m l o
  · rw [if_pos hr]
    by_cases hst : stateB ms kn a b since last odd = true
    · rw [if_pos hst]
      by_cases he : okE op n
      · have hq := stateB_of hst
        have hml := marks_len hq.1
        rw [decide_eq_true he, if_pos (show okR s j m l o ∧ stateB ms kn a b since last odd = true ∧ okE op n from ⟨hr, hst, he⟩), if_neg (by decide)]
        by_cases h1 : op = 1
        · rw [if_pos h1, w64 (a := since + n) (by omega), spec_Wheel_eq s j m l o a b n (show 220000 ≤ k by omega), spec_l2least_eq]
          unfold doV
          rw [if_pos h1]
          cases kn <;> rfl
        · rw [if_neg h1]
          by_cases h2 : op = 2
          · rw [if_pos h2]
            exact spec_Do_loop hr ms hq.1 kn a b since last odd op n hq.2.2.2.1 h2 ms.length k 0 (by omega) (by omega) (fun j hj => absurd hj (by omega))
          · rw [if_neg h2]
            unfold doV
            rw [if_neg h1, if_neg h2]
            split <;> rfl
      · rw [decide_eq_false he, if_neg (show ¬ (okR s j m l o ∧ stateB ms kn a b since last odd = true ∧ okE op n) from fun h => he h.2.2)]
        rfl
    · rw [if_neg hst, if_neg (show ¬ (okR s j m l o ∧ stateB ms kn a b since last odd = true ∧ okE op n) from fun h => hst h.2.1)]
      rfl
  · rw [if_neg hr, if_neg (show ¬ (okR s j m l o ∧ stateB ms kn a b since last odd = true ∧ okE op n) from fun h => hr h.1)]
    rfl
theorem read_loop {l1 : List Int} (h1 : ∀ x ∈ l1, (Lit.int .u8 x).wf = true) {s j m lg lo at_ a b lo' hi' : Int} (hm : 0 ≤ m ∧ m < 30) (hat : 0 ≤ at_ ∧ at_ ≤ 6000) (hlo : lo' = max a (at_ - m)) (hhi : hi' = min b (at_ + m)) (kn kn2 : Bool) (c e f c2 e2 : Int) (d : Nat) :
    ∀ (k i : Nat), i + d = 20 → d < k → laws_FnRead.l0 k l1 at_ (i : Int) s j m lg lo kn a b c e f kn2 lo' hi' c2 e2 0 = some true := by
  induction d with
  | zero =>
    intro k i hi hk
    obtain ⟨k, rfl⟩ : ∃ q, k = q + 1 := ⟨k - 1, by omega⟩
    simp only [laws_FnRead.l0]
    rw [if_neg (by omega)]
    rfl
  | succ d ih =>
    intro k i hi hk
    obtain ⟨k, rfl⟩ : ∃ q, k = q + 1 := ⟨k - 1, by omega⟩
    obtain ⟨v, y0, z0⟩ := wByte_ok h1 (i : Int) (by omega)
    have hrec := ih k (i + 1) (by omega) (by omega)
    rw [show ((i + 1 : Nat) : Int) = (i : Int) + 1 by omega] at hrec
    simp only [laws_FnRead.l0, y0, Option.bind_some]
    have hp : 0 ≤ v * (m + 1) ∧ v * (m + 1) ≤ 7650 := ⟨Int.mul_nonneg z0.1 (by omega), by have := Int.mul_le_mul z0.2 (show m + 1 ≤ 30 by omega) (by omega) (by omega); omega⟩
    rw [if_pos (by omega), w64 (a := m + 1) (by omega), w64 (a := (i : Int) + 1) (by omega)]
    generalize v * (m + 1) = p at hp
    rw [w64 (a := p) (by omega), Int.tdiv_eq_ediv_of_nonneg hp.1, w64 (a := p / 100) (by omega)]
    have hq : 0 ≤ p / 100 ∧ p / 100 ≤ 100 := by omega
    generalize p / 100 = q at hq
    rw [w64 (a := at_ + q) (by omega), w64 (a := at_ + q - m) (by omega), w64 (a := at_ - m) (by omega), w64 (a := at_ + m) (by omega), hrec]
    generalize at_ + q - m = x
    (repeat' split) <;> first | rfl | (rename_i h; simp at h; omega) | (rename_i h; simp at h; done)
theorem read_rest {l1 : List Int} (h1 : ∀ x ∈ l1, (Lit.int .u8 x).wf = true) {s j m lg lo : Int} (hr : okR s j m lg lo) (hm30 : m < 30) {ms : List S37} (hm : Drawn ms) (i : Nat) (hi : i < ms.length) {a b : Int} (hb : okB a b) (k : Nat) (hk : 400000 ≤ k) :
    laws_FnRead.j1 (k + 3) l1 ms (i : Int) (rd_T37 ms (i : Int)).f1 s j m lg lo true a b 0 (-1) 0 = some true := by
  have hml := hm.1
  have hms := drawn_marks hm
  have hsq : ms.length * (ms.length + 3) ≤ 7 * 10 := Nat.mul_le_mul (by omega) (by omega)
  have hx := drawn_rd hm hi
  have hst : stateB ms true a b 0 (-1) 0 = true := stateB_mk hms (by omega) (by omega) (by omega) (fun _ => hb) (fun q => by cases q)
  have hok : okR s j m lg lo ∧ stateB ms true a b 0 (-1) 0 = true ∧ okE 2 (rd_T37 ms (i : Int)).f0 := ⟨hr, hst, by omega⟩
  have hf : ms.findIdx? (fun x => x.f0 == (rd_T37 ms (i : Int)).f0) = some i := find_some ms _ i hi rfl (fun t ht => by
    have := (drawn_lt hm ht hi).2
    omega)
  have hd : doV s j m lg lo ms true a b 0 (-1) 0 2 (rd_T37 ms (i : Int)).f0 = hitV s j m lg lo (rd_T37 ms (i : Int)).f1 (i : Int) true a b 0 := by
    unfold doV
    rw [if_neg (by decide), if_pos rfl, hf]
  simp only [laws_FnRead.j1]
  rw [if_pos (by omega), if_pos (by omega), impl_Do_eq s j m lg lo ms (by omega) _ _ _ _ _ _ _ _ (by omega), spec_Do_eq s j m lg lo ms (by omega) _ _ _ _ _ _ _ _ (by omega), if_pos hok, hd]
  generalize (rd_T37 ms (i : Int)).f1 = x at hx
  unfold hitV
  have ew : stay (x - m) = x - m ∧ stay (x + m) = x + m := by unfold stay; omega
  have hv : readV s j m lg lo a b x = if a ≤ x + m ∧ x - m ≤ b then (max a (x - m), min b (x + m)) else (min a (x - m), max b (x + m)) := by
    unfold readV
    rw [if_pos ⟨hr, hb, by omega⟩, ew.1, ew.2]
  rw [if_pos rfl, hv, ew.1, ew.2]
  simp only [Option.bind_some, beq_self_eq_true, Bool.not_true, Bool.or_self, Bool.false_eq_true, if_false, if_true, bne_self_eq_false, laws_FnRead.j2, laws_FnRead.j3]
  rw [w64 (a := x + m) (by omega), w64 (a := x - m) (by omega)]
  by_cases h : a ≤ x + m ∧ x - m ≤ b
  · rw [if_pos h, if_pos h, if_neg (by omega), decide_eq_false (by omega)]
    simp only [Bool.false_eq_true, if_false]
    exact read_loop h1 (by omega) (by omega) rfl rfl _ _ _ _ _ _ _ 20 k 0 (by omega) (by omega)
  · rw [if_neg h, if_neg h]
    have e1 : mn (0 + 1) 1000000000 = 1 := by decide
    simp only [e1]
    by_cases g : a > x + m
    · rw [if_pos g, if_pos trivial, if_pos (by omega), if_pos (by omega), if_pos (by omega), decide_eq_true (by omega)]
    · rw [if_neg g, decide_eq_true (show b < x - m by omega), if_pos rfl, if_pos trivial, if_pos (by omega), if_pos (by omega), if_pos (by omega), decide_eq_true (by omega)]
theorem FnRead_step (l0 l1 : List Int) (h0 : ∀ x ∈ l0, (Lit.int .u8 x).wf = true) (h1 : ∀ x ∈ l1, (Lit.int .u8 x).wf = true) (k : Nat) (hk : 400000 ≤ k) (q : Bool) : laws_FnRead.j0 (k + 4) l0 l1 q = some true := by
  simp only [laws_FnRead.j0]
  cases q with
  | true => rfl
  | false =>
    rw [if_neg (by decide)]
    obtain ⟨s, j, m, lg, lo, ms, a, b, e, ⟨r1, r2, r3, r4, r5⟩, hm, b1, b2, b3, b4⟩ := known_ok h0 (k := k + 3) (by omega)
    obtain ⟨v0, y0, z0⟩ := wByte_ok h1 0 (by omega)
    obtain ⟨v1, y1, z1⟩ := wByte_ok h1 1 (by omega)
    obtain ⟨v2, y2, z2⟩ := wByte_ok h1 2 (by omega)
    obtain ⟨v3, y3, z3⟩ := wByte_ok h1 3 (by omega)
    have hr : okR s j m lg lo := by omega
    have hml := hm.1
    have hms := drawn_marks hm
    simp only [e, Option.bind_some]
    by_cases hl : (ms.length : Int) = 0
    · have hst : stateB ms true a b 0 (-1) 0 = true := stateB_mk hms (by omega) (by omega) (by omega) (fun _ => by omega) (fun q => by cases q)
      have hf : ms.findIdx? (fun x => x.f0 == (5 : Int)) = none := find_none ms 5 (fun t ht => absurd ht (by omega))
      rw [if_pos hl, impl_Do_eq s j m lg lo ms (by omega) _ _ _ _ _ _ _ _ (by omega), if_pos (show okR s j m lg lo ∧ stateB ms true a b 0 (-1) 0 = true ∧ okE 2 5 from ⟨hr, hst, by omega⟩)]
      unfold doV
      rw [if_neg (by decide), if_pos rfl, hf]
      rfl
    · rw [if_neg hl, y0]
      simp only [Option.bind_some]
      rw [Int.tmod_eq_emod_of_nonneg z0.1]
      have hi0 := Int.emod_nonneg v0 hl
      have hi1 := Int.emod_lt_of_pos v0 (show 0 < (ms.length : Int) by omega)
      generalize v0 % (ms.length : Int) = i at hi0 hi1
      obtain ⟨i, rfl⟩ : ∃ q : Nat, i = q := ⟨i.toNat, by omega⟩
      have hx := drawn_rd hm (i := i) (by omega)
      rw [if_pos hi0, if_pos hi1, y1, y2, y3]
      simp only [Option.bind_some]
      rw [Int.tmod_eq_emod_of_nonneg z2.1]
      have hw0 := Int.emod_nonneg v2 (show (90 : Int) ≠ 0 by omega)
      have hw1 := Int.emod_lt_of_pos v2 (show (0 : Int) < 90 by omega)
      generalize v2 % 90 = w at hw0 hw1
      rw [w64 (a := (rd_T37 ms (i : Int)).f1 - w) (by omega), w64 (a := (rd_T37 ms (i : Int)).f1 - w + v3) (by omega)]
      split
      · exact read_rest h1 hr (by omega) hm i (by omega) (by omega) k hk
      · exact read_rest h1 hr (by omega) hm i (by omega) (by omega) k hk
theorem FnRead (l0 l1 : List Int) (_ : l0.length * 1 ≤ 140737488351232) (h0 : ∀ x ∈ l0, (Lit.int .u8 x).wf = true) (_ : l1.length * 1 ≤ 140737488351232) (h1 : ∀ x ∈ l1, (Lit.int .u8 x).wf = true) : ∃ k, laws_FnRead.f k l0 l1 = some true := by
  obtain ⟨k, hk⟩ : ∃ k, 400000 ≤ k := ⟨400000, Nat.le_refl _⟩
  refine ⟨k + 4, ?_⟩
  unfold laws_FnRead.f
  split <;> exact FnRead_step l0 l1 h0 h1 k hk _
end Go.Proofs.Ytommdabkkgcgbaa.Pure
