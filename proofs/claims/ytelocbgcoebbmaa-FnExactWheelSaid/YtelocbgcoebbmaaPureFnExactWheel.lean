/- The plain law of laws.FnExactWheel: what the printed functions compute answers true at every input, in plain Lean, without Go and memory. Its conditions: each number is an int64, each slice takes fewer than 2^47 bytes. -/
import Derived.Test.YtelocbgcoebbmaaPFnExactWheelx4
namespace Go.Proofs.Ytelocbgcoebbmaa.Pure
open Go.RowKit Go.Proofs.Ytelocbgcoebbmaa.PFnExactWheel Go.Proofs.YtelocbgcoebbmaaW.PrintWords Go.Proofs.YtelocbgcoebbmaaW.PrintLast Go.Proofs.YtelocbgcoebbmaaW.PrintMore
set_option linter.unusedVariables false
set_option linter.unusedSimpArgs false
theorem sd {p : Prop} [Decidable p] {b : Bool} (h : b = true ↔ p) : some b = some (decide p) := by
  cases b <;> simp_all
abbrev okR (s j m l o : Int) : Prop := 0 ≤ s ∧ s ≤ 500 ∧ 0 ≤ j ∧ j ≤ 1000 ∧ 0 ≤ m ∧ m ≤ 10000 ∧ 1 ≤ l ∧ l ≤ 1000000 ∧ 0 ≤ o ∧ o ≤ 10000
abbrev okB (a b : Int) : Prop := -100000000 ≤ a ∧ a ≤ b ∧ b ≤ 100000000
abbrev okE (op n : Int) : Prop := (op = 1 ∧ 0 ≤ n ∧ n ≤ 100000) ∨ (op = 2 ∧ 1 ≤ n ∧ n ≤ 1000000000) ∨ ((op = 3 ∨ op = 4) ∧ n = 0)
theorem wf64 {a : Int} (h : (Lit.int .i64 a).wf = true) : -9223372036854775808 ≤ a ∧ a ≤ 9223372036854775807 := by
  have h' := h
  simp [Lit.wf, IntKind.min, IntKind.max, IntKind.signed, IntKind.bits] at h'
  omega
theorem spec_l1in_eq (x a b : Int) : spec_l1in.f x a b = some (decide (a ≤ x ∧ x ≤ b)) := by
  unfold spec_l1in.f
  split <;> (apply sd; simp only [decide_eq_true_eq, Bool.false_eq_true, false_iff]; omega)
theorem impl_in_eq (x a b : Int) : impl_in.f x a b = some (decide (a ≤ x ∧ x ≤ b)) := by
  unfold impl_in.f
  split <;> (apply sd; simp only [decide_eq_true_eq, Bool.false_eq_true, false_iff]; omega)
theorem spec_BoundOk_eq (a b : Int) : spec_BoundOk.f a b = some (decide (okB a b)) := by
  simp only [spec_BoundOk.f, spec_l1in_eq, Option.bind_some, decide_eq_true_eq]
  split <;> (apply sd; simp only [decide_eq_true_eq, Bool.false_eq_true, false_iff]; omega)
theorem impl_BoundOk_eq (a b : Int) : impl_BoundOk.f a b = some (decide (okB a b)) := by
  simp only [impl_BoundOk.f, impl_in_eq, Option.bind_some, decide_eq_true_eq]
  split <;> (apply sd; simp only [decide_eq_true_eq, Bool.false_eq_true, false_iff]; omega)
theorem spec_RulesOk_eq (s j m l o : Int) : spec_RulesOk.f s j m l o = some (decide (okR s j m l o)) := by
  simp only [spec_RulesOk.f, spec_l1in_eq, Option.bind_some, decide_eq_true_eq]
  (repeat' split) <;> (apply sd; simp only [decide_eq_true_eq, Bool.false_eq_true, false_iff]; omega)
theorem impl_RulesOk_eq (s j m l o : Int) : impl_RulesOk.f s j m l o = some (decide (okR s j m l o)) := by
  simp only [impl_RulesOk.f, impl_in_eq, Option.bind_some, decide_eq_true_eq]
  (repeat' split) <;> (apply sd; simp only [decide_eq_true_eq, Bool.false_eq_true, false_iff]; omega)
theorem laws_eqBound_eq (a b c d : Int) : laws_eqBound.f a b c d = some (decide (a = c ∧ b = d)) := by
  unfold laws_eqBound.f
  (repeat' split) <;> (apply sd; simp only [Bool.false_eq_true, false_iff, true_iff]; omega)
theorem w64 {a : Int} (h : -9223372036854775808 ≤ a ∧ a ≤ 9223372036854775807) : wrap64 a = a := by unfold wrap64; omega
/-- The least and the most that wheels can have come, in closed form. -/
def lst (s j c : Int) : Int := if 0 < c - j then (1000 * (c - j) + 999 + s) / (1000 + s) else 0
def mst (s j c : Int) : Int := 1000 * (c + j) / (1000 - s)
def stay (x : Int) : Int := max (-100000000) (min x 100000000)
theorem lst_le_iff {s j c x : Int} (hs : 0 ≤ s) (hx : 0 ≤ x) : lst s j c ≤ x ↔ 1000 * (c - j) ≤ 1000 * x + s * x := by
  have hp : 0 ≤ s * x := Int.mul_nonneg hs hx
  unfold lst
  split
  · rw [← Int.lt_add_one_iff, Int.ediv_lt_iff_lt_mul (by omega)]
    have e : (x + 1) * (1000 + s) = 1000 * x + s * x + 1000 + s := by
      rw [Int.add_mul, Int.mul_add, Int.mul_comm x 1000, Int.mul_comm x s]; omega
    rw [e]
    omega
  · constructor
    · intro _; omega
    · intro _; exact hx
theorem lst_nonneg {s j c : Int} (hs : 0 ≤ s) : 0 ≤ lst s j c := by
  unfold lst
  split
  · exact Int.ediv_nonneg (by omega) (by omega)
  · omega
theorem le_mst_iff {s j c x : Int} (hs : s ≤ 500) : x ≤ mst s j c ↔ 1000 * x - s * x ≤ 1000 * (c + j) := by
  unfold mst
  rw [Int.le_ediv_iff_mul_le (by omega)]
  have e : x * (1000 - s) = 1000 * x - s * x := by rw [Int.mul_sub, Int.mul_comm x 1000, Int.mul_comm x s]
  rw [e]
theorem mst_le {s j c : Int} (h0 : 0 ≤ s) (hs : s ≤ 500) (hj : 0 ≤ j ∧ j ≤ 1000) (hc : 0 ≤ c ∧ c ≤ 100000) : mst s j c ≤ 202000 := by
  unfold mst
  rw [← Int.lt_add_one_iff, Int.ediv_lt_iff_lt_mul (by omega)]
  omega
theorem lst_le {s j c : Int} (h0 : 0 ≤ s) (hj : 0 ≤ j) (hc : 0 ≤ c) : lst s j c ≤ c := by
  have hp : 0 ≤ s * c := Int.mul_nonneg h0 hc
  rw [lst_le_iff h0 hc]; omega
theorem le_mst {s j c : Int} (h0 : 0 ≤ s) (hs : s ≤ 500) (hj : 0 ≤ j) (hc : 0 ≤ c) : c ≤ mst s j c := by
  have hp : 0 ≤ s * c := Int.mul_nonneg h0 hc
  rw [le_mst_iff hs]; omega
theorem sx_bd {s x : Int} (h0 : 0 ≤ s) (hs : s ≤ 500) (hx : 0 ≤ x) (hx2 : x ≤ 300000) : 0 ≤ s * x ∧ s * x ≤ 150000000 := by
  refine ⟨Int.mul_nonneg h0 hx, ?_⟩
  have := Int.mul_le_mul hs hx2 hx (by omega)
  omega
abbrev fairP (s j x c : Int) : Prop := 1000 * (x - c) ≤ s * x + 1000 * j ∧ 1000 * (c - x) ≤ s * x + 1000 * j
theorem spec_l1fair_eq {s j m l o x c : Int} (h0 : 0 ≤ s) (hs : s ≤ 500) (hj : 0 ≤ j ∧ j ≤ 1000) (hx : 0 ≤ x) (hx2 : x ≤ 300000) (hc : 0 ≤ c ∧ c ≤ 100000) :
    spec_l1fair.f s j m l o x c = some (decide (fairP s j x c)) := by
  have hp := sx_bd h0 hs hx hx2
  unfold spec_l1fair.f fairP
  generalize s * x = p at hp ⊢
  rw [w64 (a := x - c) (by omega), w64 (a := -(x - c)) (by omega), w64 (a := 1000 * -(x - c)) (by omega), w64 (a := 1000 * (x - c)) (by omega), w64 (a := p) (by omega), w64 (a := 1000 * j) (by omega), w64 (a := p + 1000 * j) (by omega)]
  split <;> (apply sd; simp only [decide_eq_true_eq]; omega)
theorem spec_l1least_loop {s j m l o c : Int} (h0 : 0 ≤ s) (hs : s ≤ 500) (hj : 0 ≤ j ∧ j ≤ 1000) (hc : 0 ≤ c ∧ c ≤ 100000) (d : Nat) :
    ∀ (k : Nat) (far : Int), far = lst s j c - 1 + d → far + 1 ≤ c → d < k → spec_l1least.l0 k c (far + 1) far s j m l o = some (lst s j c) := by
  have hn := lst_nonneg (s := s) (j := j) (c := c) h0
  induction d with
  | zero =>
    intro k far hf hle hk
    obtain ⟨k, rfl⟩ : ∃ m, k = m + 1 := ⟨k - 1, by omega⟩
    simp only [spec_l1least.l0]
    split
    · rw [spec_l1fair_eq h0 hs hj (by omega) (by omega) hc]
      have hp := sx_bd h0 hs (x := far) (by omega) (by omega)
      have hnot : ¬ lst s j c ≤ far := by omega
      rw [lst_le_iff h0 (by omega)] at hnot
      simp only [Option.bind_some]
      rw [decide_eq_false (by unfold fairP; omega), if_neg (by decide)]
      congr 1; omega
    · congr 1; omega
  | succ d ih =>
    intro k far hf hle hk
    obtain ⟨k, rfl⟩ : ∃ m, k = m + 1 := ⟨k - 1, by omega⟩
    simp only [spec_l1least.l0]
    have h1 : far ≥ 0 := by omega
    rw [if_pos h1, spec_l1fair_eq h0 hs hj (by omega) (by omega) hc]
    have hp := sx_bd h0 hs (x := far) (by omega) (by omega)
    have hyes : lst s j c ≤ far := by omega
    rw [lst_le_iff h0 (by omega)] at hyes
    simp only [Option.bind_some]
    rw [decide_eq_true (by unfold fairP; omega), if_pos rfl, w64 (a := far - 1) (by omega)]
    have := ih k (far - 1) (by omega) (by omega) (by omega)
    rwa [show far - 1 + 1 = far from by omega] at this
theorem spec_l1least_eq {s j m l o c : Int} (h0 : 0 ≤ s) (hs : s ≤ 500) (hj : 0 ≤ j ∧ j ≤ 1000) (hc : 0 ≤ c ∧ c ≤ 100000) {k : Nat} (hk : 210000 ≤ k) : spec_l1least.f k s j m l o c = some (lst s j c) := by
  have hn := lst_nonneg (s := s) (j := j) (c := c) h0
  have hle := lst_le (s := s) (j := j) (c := c) h0 hj.1 hc.1
  have hp := sx_bd h0 hs (x := c) (by omega) (by omega)
  unfold spec_l1least.f
  obtain ⟨k, rfl⟩ : ∃ m, k = m + 1 := ⟨k - 1, by omega⟩
  simp only [spec_l1least.l0]
  rw [if_pos (show c ≥ 0 by omega), spec_l1fair_eq h0 hs hj (by omega) (by omega) hc]
  simp only [Option.bind_some]
  rw [decide_eq_true (by unfold fairP; omega), if_pos rfl, w64 (a := c - 1) (by omega)]
  have := spec_l1least_loop (m := m) (l := l) (o := o) h0 hs hj hc (c - lst s j c).toNat k (c - 1) (by omega) (by omega) (by omega)
  rwa [show c - 1 + 1 = c from by omega] at this
theorem spec_l1most_loop {s j m l o c : Int} (h0 : 0 ≤ s) (hs : s ≤ 500) (hj : 0 ≤ j ∧ j ≤ 1000) (hc : 0 ≤ c ∧ c ≤ 100000) (d : Nat) :
    ∀ (k : Nat) (far : Int), far = mst s j c + 1 - d → c ≤ far - 1 → d < k → spec_l1most.l0 k c (far - 1) far s j m l o = some (mst s j c) := by
  have hm := mst_le h0 hs hj hc
  induction d with
  | zero =>
    intro k far hf hle hk
    obtain ⟨k, rfl⟩ : ∃ m, k = m + 1 := ⟨k - 1, by omega⟩
    simp only [spec_l1most.l0]
    rw [spec_l1fair_eq h0 hs hj (by omega) (by omega) hc]
    have hp := sx_bd h0 hs (x := far) (by omega) (by omega)
    have hnot : ¬ far ≤ mst s j c := by omega
    rw [le_mst_iff hs] at hnot
    simp only [Option.bind_some]
    rw [decide_eq_false (by unfold fairP; omega), if_neg (by decide)]
    congr 1; omega
  | succ d ih =>
    intro k far hf hle hk
    obtain ⟨k, rfl⟩ : ∃ m, k = m + 1 := ⟨k - 1, by omega⟩
    simp only [spec_l1most.l0]
    rw [spec_l1fair_eq h0 hs hj (by omega) (by omega) hc]
    have hp := sx_bd h0 hs (x := far) (by omega) (by omega)
    have hyes : far ≤ mst s j c := by omega
    rw [le_mst_iff hs] at hyes
    simp only [Option.bind_some]
    rw [decide_eq_true (by unfold fairP; omega), if_pos rfl, w64 (a := far + 1) (by omega)]
    have := ih k (far + 1) (by omega) (by omega) (by omega)
    rwa [show far + 1 - 1 = far from by omega] at this
theorem spec_l1most_eq {s j m l o c : Int} (h0 : 0 ≤ s) (hs : s ≤ 500) (hj : 0 ≤ j ∧ j ≤ 1000) (hc : 0 ≤ c ∧ c ≤ 100000) {k : Nat} (hk : 210000 ≤ k) : spec_l1most.f k s j m l o c = some (mst s j c) := by
  have hm := mst_le h0 hs hj hc
  have hle := le_mst (s := s) (j := j) (c := c) h0 hs hj.1 hc.1
  have hp := sx_bd h0 hs (x := c) (by omega) (by omega)
  unfold spec_l1most.f
  obtain ⟨k, rfl⟩ : ∃ m, k = m + 1 := ⟨k - 1, by omega⟩
  simp only [spec_l1most.l0]
  rw [spec_l1fair_eq h0 hs hj (by omega) (by omega) hc]
  simp only [Option.bind_some]
  rw [decide_eq_true (by unfold fairP; omega), if_pos rfl, w64 (a := c + 1) (by omega)]
  have := spec_l1most_loop (m := m) (l := l) (o := o) h0 hs hj hc (mst s j c - c).toNat k (c + 1) (by omega) (by omega) (by omega)
  rwa [show c + 1 - 1 = c from by omega] at this
theorem spec_l1clip_eq {a b : Int} (h : a ≤ b) (hb : -100000000 ≤ b) {k : Nat} (hk : 2 ≤ k) : spec_l1clip.f k a b = some (stay a, stay b) := by
  obtain ⟨k, rfl⟩ : ∃ m, k = m + 2 := ⟨k - 2, by omega⟩
  unfold spec_l1clip.f stay
  simp only [spec_l1clip.j0, spec_l1clip.j1]
  (repeat' split) <;> simp only [Option.some.injEq, Prod.mk.injEq] <;> omega
theorem impl_stay_eq (x : Int) : impl_stay.f x = some (stay x) := by
  unfold impl_stay.f stay mx mn
  congr 1
  (repeat' split) <;> omega
theorem impl_came_eq {s j m l o c : Int} (h0 : 0 ≤ s) (hs : s ≤ 500) (hj : 0 ≤ j ∧ j ≤ 1000) (hc : 0 ≤ c ∧ c ≤ 100000) : impl_came.f s j m l o c = some (lst s j c, mst s j c) := by
  have hm := mst_le h0 hs hj hc
  have hm0 := le_mst (s := s) (j := j) (c := c) h0 hs hj.1 hc.1
  have hl := lst_le (s := s) (j := j) (c := c) h0 hj.1 hc.1
  have hl0 := lst_nonneg (s := s) (j := j) (c := c) h0
  unfold impl_came.f
  rw [w64 (a := c - j) (by omega), w64 (a := c + j) (by omega), w64 (a := 1000 * (c - j)) (by omega), w64 (a := 1000 * (c + j)) (by omega), w64 (a := 1000 + s) (by omega), w64 (a := 1000 - s) (by omega), w64 (a := 1000 * (c - j) + 999) (by omega), w64 (a := 1000 * (c - j) + 999 + s) (by omega)]
  have e2 : wrap64 ((1000 * (c + j)).tdiv (1000 - s)) = mst s j c := by
    rw [Int.tdiv_eq_ediv_of_nonneg (by omega)]
    exact w64 (a := mst s j c) (by omega)
  simp only [if_neg (show ¬ 1000 - s = 0 by omega), if_neg (show ¬ 1000 + s = 0 by omega), e2]
  split
  · rename_i hpos
    have e1 : wrap64 ((1000 * (c - j) + 999 + s).tdiv (1000 + s)) = lst s j c := by
      rw [Int.tdiv_eq_ediv_of_nonneg (by omega)]
      have e : (1000 * (c - j) + 999 + s) / (1000 + s) = lst s j c := by unfold lst; rw [if_pos (by omega)]
      rw [e]
      exact w64 (by omega)
    rw [e1]
  · rename_i hneg
    have e : lst s j c = 0 := by unfold lst; rw [if_neg (by omega)]
    rw [e]
theorem spec_l1good_eq (s j m l o a b : Int) : spec_l1good.f s j m l o a b = some (decide (okR s j m l o ∧ okB a b)) := by
  simp only [spec_l1good.f, spec_RulesOk_eq, spec_BoundOk_eq, Option.bind_some, decide_eq_true_eq]
  split
  · rename_i h1
    exact congrArg some (decide_eq_decide.2 ⟨fun h => ⟨h1, h⟩, fun h => h.2⟩)
  · rename_i h1
    exact congrArg some (decide_eq_false (fun h => h1 h.1)).symm
/-- What Wheel answers. -/
def wheelV (s j m l o a b c : Int) : Int × Int := if okR s j m l o ∧ okB a b ∧ (0 ≤ c ∧ c ≤ 100000) then (stay (a + lst s j c), stay (b + mst s j c)) else (0, 0)
/-- What Read answers. -/
def readV (s j m l o a b x : Int) : Int × Int :=
  if okR s j m l o ∧ okB a b ∧ (0 ≤ x ∧ x ≤ 100000000) then
    (if a ≤ stay (x + m) ∧ stay (x - m) ≤ b then (max a (stay (x - m)), min b (stay (x + m))) else (min a (stay (x - m)), max b (stay (x + m)))) else (0, 0)
theorem spec_Wheel_eq (s j m l o a b c : Int) {k : Nat} (hk : 220000 ≤ k) : spec_Wheel.f k s j m l o a b c = some (wheelV s j m l o a b c) := by
  obtain ⟨k, rfl⟩ : ∃ m, k = m + 1 := ⟨k - 1, by omega⟩
  simp only [spec_Wheel.f, spec_l1good_eq, spec_l1in_eq, Option.bind_some, decide_eq_true_eq, spec_Wheel.j0, wheelV]
  by_cases h1 : okR s j m l o ∧ okB a b
  · rw [if_pos h1]
    by_cases h2 : 0 ≤ c ∧ c ≤ 100000
    · obtain ⟨hr, hb⟩ := h1
      rw [if_pos (show okR s j m l o ∧ okB a b ∧ (0 ≤ c ∧ c ≤ 100000) from ⟨hr, hb, h2⟩), decide_eq_true h2]
      have hl := lst_le (s := s) (j := j) (c := c) (by omega) (by omega) h2.1
      have hl0 := lst_nonneg (s := s) (j := j) (c := c) (by omega)
      have hm := mst_le (s := s) (j := j) (c := c) (by omega) (by omega) (by omega) h2
      have hm0 := le_mst (s := s) (j := j) (c := c) (by omega) (by omega) (by omega) h2.1
      rw [if_neg (by decide), spec_l1least_eq (by omega) (by omega) (by omega) h2 (by omega), spec_l1most_eq (by omega) (by omega) (by omega) h2 (by omega)]
      simp only [Option.bind_some]
      rw [w64 (a := a + lst s j c) (by omega), w64 (a := b + mst s j c) (by omega), spec_l1clip_eq (by omega) (by omega) (by omega)]
      rfl
    · rw [if_neg (show ¬ (okR s j m l o ∧ okB a b ∧ (0 ≤ c ∧ c ≤ 100000)) from fun h => h2 h.2.2), decide_eq_false h2]
      rfl
  · rw [if_neg h1, if_neg (show ¬ (okR s j m l o ∧ okB a b ∧ (0 ≤ c ∧ c ≤ 100000)) from fun h => h1 ⟨h.1, h.2.1⟩)]
    rfl
theorem impl_Wheel_eq (s j m l o a b c : Int) {k : Nat} (hk : 1 ≤ k) : impl_Wheel.f k s j m l o a b c = some (wheelV s j m l o a b c) := by
  obtain ⟨k, rfl⟩ : ∃ m, k = m + 1 := ⟨k - 1, by omega⟩
  simp only [impl_Wheel.f, impl_RulesOk_eq, impl_BoundOk_eq, impl_in_eq, impl_stay_eq, Option.bind_some, decide_eq_true_eq, impl_Wheel.j0, wheelV]
  by_cases hr : okR s j m l o
  · rw [if_pos hr]
    by_cases hb : okB a b
    · rw [if_pos hb]
      by_cases h2 : 0 ≤ c ∧ c ≤ 100000
      · rw [if_pos (show okR s j m l o ∧ okB a b ∧ (0 ≤ c ∧ c ≤ 100000) from ⟨hr, hb, h2⟩), decide_eq_true h2]
        have hl := lst_le (s := s) (j := j) (c := c) (by omega) (by omega) h2.1
        have hl0 := lst_nonneg (s := s) (j := j) (c := c) (by omega)
        have hm := mst_le (s := s) (j := j) (c := c) (by omega) (by omega) (by omega) h2
        have hm0 := le_mst (s := s) (j := j) (c := c) (by omega) (by omega) (by omega) h2.1
        rw [if_neg (by decide), impl_came_eq (by omega) (by omega) (by omega) h2]
        simp only [Option.bind_some]
        rw [w64 (a := a + lst s j c) (by omega), w64 (a := b + mst s j c) (by omega)]
      · rw [if_neg (show ¬ (okR s j m l o ∧ okB a b ∧ (0 ≤ c ∧ c ≤ 100000)) from fun h => h2 h.2.2), decide_eq_false h2]
        rfl
    · rw [if_neg hb, if_neg (show ¬ (okR s j m l o ∧ okB a b ∧ (0 ≤ c ∧ c ≤ 100000)) from fun h => hb h.2.1)]
      rfl
  · rw [if_neg hr, if_neg (show ¬ (okR s j m l o ∧ okB a b ∧ (0 ≤ c ∧ c ≤ 100000)) from fun h => hr h.1)]
    rfl
theorem FnExactWheel (s j m l o a b c : Int) (_ : (Lit.int .i64 s).wf = true) (_ : (Lit.int .i64 j).wf = true) (_ : (Lit.int .i64 m).wf = true) (_ : (Lit.int .i64 l).wf = true) (_ : (Lit.int .i64 o).wf = true)
    (_ : (Lit.int .i64 a).wf = true) (_ : (Lit.int .i64 b).wf = true) (_ : (Lit.int .i64 c).wf = true) : ∃ k, laws_FnExactWheel.f k s j m l o a b c = some true := by
  refine ⟨220000, ?_⟩
  simp only [laws_FnExactWheel.f, laws_toRules.f, laws_toBound.f, Option.bind_some, spec_Wheel_eq s j m l o a b c (Nat.le_refl _), impl_Wheel_eq s j m l o a b c (show 1 ≤ 220000 by omega), laws_eqBound_eq, and_self, decide_true, if_true]
end Go.Proofs.Ytelocbgcoebbmaa.Pure
