/- The plain law of laws.FnSums: what the printed functions compute answers true at every input, in plain Lean, without Go and memory. Its conditions: each number is an int64, each slice takes fewer than 2^47 bytes. -/
import Derived.Test.YtelocbgcoebbmaaQFnSumsx6
namespace Go.Proofs.Ytelocbgcoebbmaa.Pure
open Go.RowKit Go.Proofs.Ytelocbgcoebbmaa.QFnSums Go.Proofs.YtelocbgcoebbmaaW.PrintWords Go.Proofs.YtelocbgcoebbmaaW.PrintLast Go.Proofs.YtelocbgcoebbmaaW.PrintMore
set_option linter.unusedVariables false
set_option linter.unusedSimpArgs false
theorem sd {p : Prop} [Decidable p] {b : Bool} (h : b = true ↔ p) : some b = some (decide p) := by
  cases b <;> simp_all
abbrev okR (s j m l o : Int) : Prop := 0 ≤ s ∧ s ≤ 500 ∧ 0 ≤ j ∧ j ≤ 1000 ∧ 0 ≤ m ∧ m ≤ 10000 ∧ 1 ≤ l ∧ l ≤ 1000000 ∧ 0 ≤ o ∧ o ≤ 10000
abbrev okB (a b : Int) : Prop := -100000000 ≤ a ∧ a ≤ b ∧ b ≤ 100000000
abbrev okE (op n : Int) : Prop := (op = 1 ∧ 0 ≤ n ∧ n ≤ 100000) ∨ (op = 2 ∧ 1 ≤ n ∧ n ≤ 1000000000) ∨ ((op = 3 ∨ op = 4) ∧ n = 0)
theorem wf64 {a : Int} (h : (Lit.int .i64 a).wf = true) : -9223372036854775808 ≤ a ∧ a ≤ 9223372036854775807 := by
  have h' := h
  simp [Lit.wf, IntKind.min, IntKind.max, IntKind.signed, IntKind.bits] at h'
  omega
theorem spec_l1in_eq (x a b : Int) : spec_l1in.f x a b = some (decide (a ≤ x ∧ x ≤ b)) := by
  unfold spec_l1in.f
  split <;> (apply sd; simp only [decide_eq_true_eq, Bool.false_eq_true, false_iff]; omega)
theorem impl_in_eq (x a b : Int) : impl_in.f x a b = some (decide (a ≤ x ∧ x ≤ b)) := by
  unfold impl_in.f
  split <;> (apply sd; simp only [decide_eq_true_eq, Bool.false_eq_true, false_iff]; omega)
theorem spec_BoundOk_eq (a b : Int) : spec_BoundOk.f a b = some (decide (okB a b)) := by
  simp only [spec_BoundOk.f, spec_l1in_eq, Option.bind_some, decide_eq_true_eq]
  split <;> (apply sd; simp only [decide_eq_true_eq, Bool.false_eq_true, false_iff]; omega)
theorem impl_BoundOk_eq (a b : Int) : impl_BoundOk.f a b = some (decide (okB a b)) := by
  simp only [impl_BoundOk.f, impl_in_eq, Option.bind_some, decide_eq_true_eq]
  split <;> (apply sd; simp only [decide_eq_true_eq, Bool.false_eq_true, false_iff]; omega)
theorem spec_RulesOk_eq (s j m l o : Int) : spec_RulesOk.f s j m l o = some (decide (okR s j m l o)) := by
  simp only [spec_RulesOk.f, spec_l1in_eq, Option.bind_some, decide_eq_true_eq]
  (repeat' split) <;> (apply sd; simp only [decide_eq_true_eq, Bool.false_eq_true, false_iff]; omega)
theorem impl_RulesOk_eq (s j m l o : Int) : impl_RulesOk.f s j m l o = some (decide (okR s j m l o)) := by
  simp only [impl_RulesOk.f, impl_in_eq, Option.bind_some, decide_eq_true_eq]
  (repeat' split) <;> (apply sd; simp only [decide_eq_true_eq, Bool.false_eq_true, false_iff]; omega)
theorem w64 {a : Int} (h : -9223372036854775808 ≤ a ∧ a ≤ 9223372036854775807) : wrap64 a = a := by unfold wrap64; omega
/-- The least and the most that wheels can have come, in closed form. -/
def lst (s j c : Int) : Int := if 0 < c - j then (1000 * (c - j) + 999 + s) / (1000 + s) else 0
def mst (s j c : Int) : Int := 1000 * (c + j) / (1000 - s)
def stay (x : Int) : Int := max (-100000000) (min x 100000000)
theorem lst_le_iff {s j c x : Int} (hs : 0 ≤ s) (hx : 0 ≤ x) : lst s j c ≤ x ↔ 1000 * (c - j) ≤ 1000 * x + s * x := by
  have hp : 0 ≤ s * x := Int.mul_nonneg hs hx
  unfold lst
  split
  · rw [← Int.lt_add_one_iff, Int.ediv_lt_iff_lt_mul (by omega)]
    have e : (x + 1) * (1000 + s) = 1000 * x + s * x + 1000 + s := by
      rw [Int.add_mul, Int.mul_add, Int.mul_comm x 1000, Int.mul_comm x s]; omega
    rw [e]
    omega
  · constructor
    · intro _; omega
    · intro _; exact hx
theorem lst_nonneg {s j c : Int} (hs : 0 ≤ s) : 0 ≤ lst s j c := by
  unfold lst
  split
  · exact Int.ediv_nonneg (by omega) (by omega)
  · omega
theorem le_mst_iff {s j c x : Int} (hs : s ≤ 500) : x ≤ mst s j c ↔ 1000 * x - s * x ≤ 1000 * (c + j) := by
  unfold mst
  rw [Int.le_ediv_iff_mul_le (by omega)]
  have e : x * (1000 - s) = 1000 * x - s * x := by rw [Int.mul_sub, Int.mul_comm x 1000, Int.mul_comm x s]
  rw [e]
theorem mst_le {s j c : Int} (h0 : 0 ≤ s) (hs : s ≤ 500) (hj : 0 ≤ j ∧ j ≤ 1000) (hc : 0 ≤ c ∧ c ≤ 100000) : mst s j c ≤ 202000 := by
  unfold mst
  rw [← Int.lt_add_one_iff, Int.ediv_lt_iff_lt_mul (by omega)]
  omega
theorem lst_le {s j c : Int} (h0 : 0 ≤ s) (hj : 0 ≤ j) (hc : 0 ≤ c) : lst s j c ≤ c := by
  have hp : 0 ≤ s * c := Int.mul_nonneg h0 hc
  rw [lst_le_iff h0 hc]; omega
theorem le_mst {s j c : Int} (h0 : 0 ≤ s) (hs : s ≤ 500) (hj : 0 ≤ j) (hc : 0 ≤ c) : c ≤ mst s j c := by
  have hp : 0 ≤ s * c := Int.mul_nonneg h0 hc
  rw [le_mst_iff hs]; omega
theorem sx_bd {s x : Int} (h0 : 0 ≤ s) (hs : s ≤ 500) (hx : 0 ≤ x) (hx2 : x ≤ 300000) : 0 ≤ s * x ∧ s * x ≤ 150000000 := by
  refine ⟨Int.mul_nonneg h0 hx, ?_⟩
  have := Int.mul_le_mul hs hx2 hx (by omega)
  omega
abbrev fairP (s j x c : Int) : Prop := 1000 * (x - c) ≤ s * x + 1000 * j ∧ 1000 * (c - x) ≤ s * x + 1000 * j
theorem spec_l1fair_eq {s j m l o x c : Int} (h0 : 0 ≤ s) (hs : s ≤ 500) (hj : 0 ≤ j ∧ j ≤ 1000) (hx : 0 ≤ x) (hx2 : x ≤ 300000) (hc : 0 ≤ c ∧ c ≤ 100000) :
    spec_l1fair.f s j m l o x c = some (decide (fairP s j x c)) := by
  have hp := sx_bd h0 hs hx hx2
  unfold spec_l1fair.f fairP
  generalize s * x = p at hp ⊢
  rw [w64 (a := x - c) (by omega), w64 (a := -(x - c)) (by omega), w64 (a := 1000 * -(x - c)) (by omega), w64 (a := 1000 * (x - c)) (by omega), w64 (a := p) (by omega), w64 (a := 1000 * j) (by omega), w64 (a := p + 1000 * j) (by omega)]
  split <;> (apply sd; simp only [decide_eq_true_eq]; omega)
theorem spec_l1least_loop {s j m l o c : Int} (h0 : 0 ≤ s) (hs : s ≤ 500) (hj : 0 ≤ j ∧ j ≤ 1000) (hc : 0 ≤ c ∧ c ≤ 100000) (d : Nat) :
    ∀ (k : Nat) (far : Int), far = lst s j c - 1 + d → far + 1 ≤ c → d < k → spec_l1least.l0 k c (far + 1) far s j m l o = some (lst s j c) := by
  have hn := lst_nonneg (s := s) (j := j) (c := c) h0
  induction d with
  | zero =>
    intro k far hf hle hk
    obtain ⟨k, rfl⟩ : ∃ m, k = m + 1 := ⟨k - 1, by omega⟩
    simp only [spec_l1least.l0]
    split
    · rw [spec_l1fair_eq h0 hs hj (by omega) (by omega) hc]
      have hp := sx_bd h0 hs (x := far) (by omega) (by omega)
      have hnot : ¬ lst s j c ≤ far := by omega
      rw [lst_le_iff h0 (by omega)] at hnot
      simp only [Option.bind_some]
      rw [decide_eq_false (by unfold fairP; omega), if_neg (by decide)]
      congr 1; omega
    · congr 1; omega
  | succ d ih =>
    intro k far hf hle hk
    obtain ⟨k, rfl⟩ : ∃ m, k = m + 1 := ⟨k - 1, by omega⟩
    simp only [spec_l1least.l0]
    have h1 : far ≥ 0 := by omega
    rw [if_pos h1, spec_l1fair_eq h0 hs hj (by omega) (by omega) hc]
    have hp := sx_bd h0 hs (x := far) (by omega) (by omega)
    have hyes : lst s j c ≤ far := by omega
    rw [lst_le_iff h0 (by omega)] at hyes
    simp only [Option.bind_some]
    rw [decide_eq_true (by unfold fairP; omega), if_pos rfl, w64 (a := far - 1) (by omega)]
    have := ih k (far - 1) (by omega) (by omega) (by omega)
    rwa [show far - 1 + 1 = far from by omega] at this
theorem spec_l1least_eq {s j m l o c : Int} (h0 : 0 ≤ s) (hs : s ≤ 500) (hj : 0 ≤ j ∧ j ≤ 1000) (hc : 0 ≤ c ∧ c ≤ 100000) {k : Nat} (hk : 210000 ≤ k) : spec_l1least.f k s j m l o c = some (lst s j c) := by
  have hn := lst_nonneg (s := s) (j := j) (c := c) h0
  have hle := lst_le (s := s) (j := j) (c := c) h0 hj.1 hc.1
  have hp := sx_bd h0 hs (x := c) (by omega) (by omega)
  unfold spec_l1least.f
  obtain ⟨k, rfl⟩ : ∃ m, k = m + 1 := ⟨k - 1, by omega⟩
  simp only [spec_l1least.l0]
  rw [if_pos (show c ≥ 0 by omega), spec_l1fair_eq h0 hs hj (by omega) (by omega) hc]
  simp only [Option.bind_some]
  rw [decide_eq_true (by unfold fairP; omega), if_pos rfl, w64 (a := c - 1) (by omega)]
  have := spec_l1least_loop (m := m) (l := l) (o := o) h0 hs hj hc (c - lst s j c).toNat k (c - 1) (by omega) (by omega) (by omega)
  rwa [show c - 1 + 1 = c from by omega] at this
theorem spec_l1most_loop {s j m l o c : Int} (h0 : 0 ≤ s) (hs : s ≤ 500) (hj : 0 ≤ j ∧ j ≤ 1000) (hc : 0 ≤ c ∧ c ≤ 100000) (d : Nat) :
    ∀ (k : Nat) (far : Int), far = mst s j c + 1 - d → c ≤ far - 1 → d < k → spec_l1most.l0 k c (far - 1) far s j m l o = some (mst s j c) := by
  have hm := mst_le h0 hs hj hc
  induction d with
  | zero =>
    intro k far hf hle hk
    obtain ⟨k, rfl⟩ : ∃ m, k = m + 1 := ⟨k - 1, by omega⟩
    simp only [spec_l1most.l0]
    rw [spec_l1fair_eq h0 hs hj (by omega) (by omega) hc]
    have hp := sx_bd h0 hs (x := far) (by omega) (by omega)
    have hnot : ¬ far ≤ mst s j c := by omega
    rw [le_mst_iff hs] at hnot
    simp only [Option.bind_some]
    rw [decide_eq_false (by unfold fairP; omega), if_neg (by decide)]
    congr 1; omega
  | succ d ih =>
    intro k far hf hle hk
    obtain ⟨k, rfl⟩ : ∃ m, k = m + 1 := ⟨k - 1, by omega⟩
    simp only [spec_l1most.l0]
    rw [spec_l1fair_eq h0 hs hj (by omega) (by omega) hc]
    have hp := sx_bd h0 hs (x := far) (by omega) (by omega)
    have hyes : far ≤ mst s j c := by omega
    rw [le_mst_iff hs] at hyes
    simp only [Option.bind_some]
    rw [decide_eq_true (by unfold fairP; omega), if_pos rfl, w64 (a := far + 1) (by omega)]
    have := ih k (far + 1) (by omega) (by omega) (by omega)
    rwa [show far + 1 - 1 = far from by omega] at this
theorem spec_l1most_eq {s j m l o c : Int} (h0 : 0 ≤ s) (hs : s ≤ 500) (hj : 0 ≤ j ∧ j ≤ 1000) (hc : 0 ≤ c ∧ c ≤ 100000) {k : Nat} (hk : 210000 ≤ k) : spec_l1most.f k s j m l o c = some (mst s j c) := by
  have hm := mst_le h0 hs hj hc
  have hle := le_mst (s := s) (j := j) (c := c) h0 hs hj.1 hc.1
  have hp := sx_bd h0 hs (x := c) (by omega) (by omega)
  unfold spec_l1most.f
  obtain ⟨k, rfl⟩ : ∃ m, k = m + 1 := ⟨k - 1, by omega⟩
  simp only [spec_l1most.l0]
  rw [spec_l1fair_eq h0 hs hj (by omega) (by omega) hc]
  simp only [Option.bind_some]
  rw [decide_eq_true (by unfold fairP; omega), if_pos rfl, w64 (a := c + 1) (by omega)]
  have := spec_l1most_loop (m := m) (l := l) (o := o) h0 hs hj hc (mst s j c - c).toNat k (c + 1) (by omega) (by omega) (by omega)
  rwa [show c + 1 - 1 = c from by omega] at this
theorem spec_l1clip_eq {a b : Int} (h : a ≤ b) (hb : -100000000 ≤ b) {k : Nat} (hk : 2 ≤ k) : spec_l1clip.f k a b = some (stay a, stay b) := by
  obtain ⟨k, rfl⟩ : ∃ m, k = m + 2 := ⟨k - 2, by omega⟩
  unfold spec_l1clip.f stay
  simp only [spec_l1clip.j0, spec_l1clip.j1]
  (repeat' split) <;> simp only [Option.some.injEq, Prod.mk.injEq] <;> omega
theorem impl_stay_eq (x : Int) : impl_stay.f x = some (stay x) := by
  unfold impl_stay.f stay mx mn
  congr 1
  (repeat' split) <;> omega
theorem impl_came_eq {s j m l o c : Int} (h0 : 0 ≤ s) (hs : s ≤ 500) (hj : 0 ≤ j ∧ j ≤ 1000) (hc : 0 ≤ c ∧ c ≤ 100000) : impl_came.f s j m l o c = some (lst s j c, mst s j c) := by
  have hm := mst_le h0 hs hj hc
  have hm0 := le_mst (s := s) (j := j) (c := c) h0 hs hj.1 hc.1
  have hl := lst_le (s := s) (j := j) (c := c) h0 hj.1 hc.1
  have hl0 := lst_nonneg (s := s) (j := j) (c := c) h0
  unfold impl_came.f
  rw [w64 (a := c - j) (by omega), w64 (a := c + j) (by omega), w64 (a := 1000 * (c - j)) (by omega), w64 (a := 1000 * (c + j)) (by omega), w64 (a := 1000 + s) (by omega), w64 (a := 1000 - s) (by omega), w64 (a := 1000 * (c - j) + 999) (by omega), w64 (a := 1000 * (c - j) + 999 + s) (by omega)]
  have e2 : wrap64 ((1000 * (c + j)).tdiv (1000 - s)) = mst s j c := by
    rw [Int.tdiv_eq_ediv_of_nonneg (by omega)]
    exact w64 (a := mst s j c) (by omega)
  simp only [if_neg (show ¬ 1000 - s = 0 by omega), if_neg (show ¬ 1000 + s = 0 by omega), e2]
  split
  · rename_i hpos
    have e1 : wrap64 ((1000 * (c - j) + 999 + s).tdiv (1000 + s)) = lst s j c := by
      rw [Int.tdiv_eq_ediv_of_nonneg (by omega)]
      have e : (1000 * (c - j) + 999 + s) / (1000 + s) = lst s j c := by unfold lst; rw [if_pos (by omega)]
      rw [e]
      exact w64 (by omega)
    rw [e1]
  · rename_i hneg
    have e : lst s j c = 0 := by unfold lst; rw [if_neg (by omega)]
    rw [e]
theorem spec_l1good_eq (s j m l o a b : Int) : spec_l1good.f s j m l o a b = some (decide (okR s j m l o ∧ okB a b)) := by
  simp only [spec_l1good.f, spec_RulesOk_eq, spec_BoundOk_eq, Option.bind_some, decide_eq_true_eq]
  split
  · rename_i h1
    exact congrArg some (decide_eq_decide.2 ⟨fun h => ⟨h1, h⟩, fun h => h.2⟩)
  · rename_i h1
    exact congrArg some (decide_eq_false (fun h => h1 h.1)).symm
/-- What Wheel answers. -/
def wheelV (s j m l o a b c : Int) : Int × Int := if okR s j m l o ∧ okB a b ∧ (0 ≤ c ∧ c ≤ 100000) then (stay (a + lst s j c), stay (b + mst s j c)) else (0, 0)
/-- What Read answers. -/
def readV (s j m l o a b x : Int) : Int × Int :=
  if okR s j m l o ∧ okB a b ∧ (0 ≤ x ∧ x ≤ 100000000) then
    (if a ≤ stay (x + m) ∧ stay (x - m) ≤ b then (max a (stay (x - m)), min b (stay (x + m))) else (min a (stay (x - m)), max b (stay (x + m)))) else (0, 0)
theorem spec_Wheel_eq (s j m l o a b c : Int) {k : Nat} (hk : 220000 ≤ k) : spec_Wheel.f k s j m l o a b c = some (wheelV s j m l o a b c) := by
  obtain ⟨k, rfl⟩ : ∃ m, k = m + 1 := ⟨k - 1, by omega⟩
  simp only [spec_Wheel.f, spec_l1good_eq, spec_l1in_eq, Option.bind_some, decide_eq_true_eq, spec_Wheel.j0, wheelV]
  by_cases h1 : okR s j m l o ∧ okB a b
  · rw [if_pos h1]
    by_cases h2 : 0 ≤ c ∧ c ≤ 100000
    · obtain ⟨hr, hb⟩ := h1
      rw [if_pos (show okR s j m l o ∧ okB a b ∧ (0 ≤ c ∧ c ≤ 100000) from ⟨hr, hb, h2⟩), decide_eq_true h2]
      have hl := lst_le (s := s) (j := j) (c := c) (by omega) (by omega) h2.1
      have hl0 := lst_nonneg (s := s) (j := j) (c := c) (by omega)
      have hm := mst_le (s := s) (j := j) (c := c) (by omega) (by omega) (by omega) h2
      have hm0 := le_mst (s := s) (j := j) (c := c) (by omega) (by omega) (by omega) h2.1
      rw [if_neg (by decide), spec_l1least_eq (by omega) (by omega) (by omega) h2 (by omega), spec_l1most_eq (by omega) (by omega) (by omega) h2 (by omega)]
      simp only [Option.bind_some]
      rw [w64 (a := a + lst s j c) (by omega), w64 (a := b + mst s j c) (by omega), spec_l1clip_eq (by omega) (by omega) (by omega)]
      rfl
    · rw [if_neg (show ¬ (okR s j m l o ∧ okB a b ∧ (0 ≤ c ∧ c ≤ 100000)) from fun h => h2 h.2.2), decide_eq_false h2]
      rfl
  · rw [if_neg h1, if_neg (show ¬ (okR s j m l o ∧ okB a b ∧ (0 ≤ c ∧ c ≤ 100000)) from fun h => h1 ⟨h.1, h.2.1⟩)]
    rfl
theorem impl_Wheel_eq (s j m l o a b c : Int) {k : Nat} (hk : 1 ≤ k) : impl_Wheel.f k s j m l o a b c = some (wheelV s j m l o a b c) := by
  obtain ⟨k, rfl⟩ : ∃ m, k = m + 1 := ⟨k - 1, by omega⟩
  simp only [impl_Wheel.f, impl_RulesOk_eq, impl_BoundOk_eq, impl_in_eq, impl_stay_eq, Option.bind_some, decide_eq_true_eq, impl_Wheel.j0, wheelV]
  by_cases hr : okR s j m l o
  · rw [if_pos hr]
    by_cases hb : okB a b
    · rw [if_pos hb]
      by_cases h2 : 0 ≤ c ∧ c ≤ 100000
      · rw [if_pos (show okR s j m l o ∧ okB a b ∧ (0 ≤ c ∧ c ≤ 100000) from ⟨hr, hb, h2⟩), decide_eq_true h2]
        have hl := lst_le (s := s) (j := j) (c := c) (by omega) (by omega) h2.1
        have hl0 := lst_nonneg (s := s) (j := j) (c := c) (by omega)
        have hm := mst_le (s := s) (j := j) (c := c) (by omega) (by omega) (by omega) h2
        have hm0 := le_mst (s := s) (j := j) (c := c) (by omega) (by omega) (by omega) h2.1
        rw [if_neg (by decide), impl_came_eq (by omega) (by omega) (by omega) h2]
        simp only [Option.bind_some]
        rw [w64 (a := a + lst s j c) (by omega), w64 (a := b + mst s j c) (by omega)]
      · rw [if_neg (show ¬ (okR s j m l o ∧ okB a b ∧ (0 ≤ c ∧ c ≤ 100000)) from fun h => h2 h.2.2), decide_eq_false h2]
        rfl
    · rw [if_neg hb, if_neg (show ¬ (okR s j m l o ∧ okB a b ∧ (0 ≤ c ∧ c ≤ 100000)) from fun h => hb h.2.1)]
      rfl
  · rw [if_neg hr, if_neg (show ¬ (okR s j m l o ∧ okB a b ∧ (0 ≤ c ∧ c ≤ 100000)) from fun h => hr h.1)]
    rfl
/-- The rounds that suffice for a list of n marks. -/
def Kn (n : Nat) : Nat := n * (n + 3) + 2 * n + 300000
theorem wrap_u64 (n : Int) : IntKind.u64.wrap n = n % 18446744073709551616 := by simp [IntKind.wrap, IntKind.bits, IntKind.signed]
theorem and255 {x : Int} (h0 : 0 ≤ x) (h1 : x < 18446744073709551616) : Go.bits .and .u64 x 255 = x % 256 :=
  Go.bits_mask .u64 64 (by decide) (fun n h h' => by rw [wrap_u64]; omega) 8 (by decide) x h0 h1
theorem rd_byte {l : List Int} (hl : ∀ x ∈ l, (Lit.int .u8 x).wf = true) (i : Int) (h0 : 0 ≤ i) (h1 : i < (l.length : Int)) : 0 ≤ rd l i ∧ rd l i ≤ 255 := by
  have hi : i.toNat < l.length := by omega
  have e : rd l i = l[i.toNat] := by simp [rd, List.getD_eq_getElem?_getD, hi]
  have h := hl _ (List.getElem_mem hi)
  rw [← e] at h
  simp [Lit.wf, IntKind.min, IntKind.max, IntKind.signed, IntKind.bits] at h
  omega
theorem next_ok {l : List Int} (hl : ∀ x ∈ l, (Lit.int .u8 x).wf = true) (p s : Int) (h0 : 0 ≤ p) (h1 : p ≤ 1000000000) : ∃ v s', spec_l5Cur_next.f l p s = some (v, p + 1, s') ∧ 0 ≤ v ∧ v ≤ 255 := by
  unfold spec_l5Cur_next.f
  rw [w64 (a := p + 1) (by omega)]
  by_cases h : p < (l.length : Int)
  · rw [if_pos h, if_pos h0]
    have hb := rd_byte hl p h0 h
    rw [w64 (a := rd l p) (by omega)]
    exact ⟨_, _, rfl, hb.1, hb.2⟩
  · rw [if_neg h]
    have hq : 0 ≤ IntKind.u64.wrap ((IntKind.u64.wrap (s * 6364136223846793005)) + 1442695040888963407) / 1099511627776 ∧ IntKind.u64.wrap ((IntKind.u64.wrap (s * 6364136223846793005)) + 1442695040888963407) / 1099511627776 < 18446744073709551616 := by
      rw [wrap_u64 (IntKind.u64.wrap (s * 6364136223846793005) + 1442695040888963407)]
      generalize IntKind.u64.wrap (s * 6364136223846793005) + 1442695040888963407 = q
      omega
    generalize IntKind.u64.wrap ((IntKind.u64.wrap (s * 6364136223846793005)) + 1442695040888963407) / 1099511627776 = q at hq ⊢
    rw [and255 hq.1 hq.2, w64 (a := q % 256) (by omega)]
    exact ⟨_, _, rfl, by omega, by omega⟩
theorem pick_ok {l : List Int} (hl : ∀ x ∈ l, (Lit.int .u8 x).wf = true) (p s : Int) (h0 : 0 ≤ p) (h1 : p ≤ 1000000000) (n : Int) (hn : 1 < n) (hn2 : n ≤ 200) :
    ∃ v p' s', spec_l5Cur_pick.f l p s n = some (v, p', s') ∧ (0 ≤ v ∧ v < n) ∧ p ≤ p' ∧ p' ≤ p + 2 := by
  unfold spec_l5Cur_pick.f
  obtain ⟨v, s', e, hv⟩ := next_ok hl p s h0 h1
  rw [if_neg (by omega), e]
  simp only [Option.bind_some]
  rw [if_neg (by omega), if_neg (by omega), Int.tmod_eq_emod_of_nonneg hv.1]
  exact ⟨_, _, _, rfl, ⟨Int.emod_nonneg _ (by omega), Int.emod_lt_of_pos _ (by omega)⟩, by omega, by omega⟩
theorem wide_ok {l : List Int} (hl : ∀ x ∈ l, (Lit.int .u8 x).wf = true) (p s : Int) (h0 : 0 ≤ p) (h1 : p ≤ 900000000) (n : Int) (hn : 0 < n) :
    ∃ v p' s', spec_l5Cur_wide.f l p s n = some (v, p', s') ∧ (0 ≤ v ∧ v < n) ∧ p ≤ p' ∧ p' ≤ p + 2 := by
  unfold spec_l5Cur_wide.f
  obtain ⟨v, s', e, hv⟩ := next_ok hl p s h0 (by omega)
  obtain ⟨u, s2, e2, hu⟩ := next_ok hl (p + 1) s' (by omega) (by omega)
  rw [e]
  simp only [Option.bind_some]
  rw [e2]
  simp only [Option.bind_some]
  rw [if_neg (by omega), w64 (a := v * 256) (by omega), w64 (a := v * 256 + u) (by omega), Int.tmod_eq_emod_of_nonneg (by omega)]
  exact ⟨_, _, _, rfl, ⟨Int.emod_nonneg _ (by omega), Int.emod_lt_of_pos _ (by omega)⟩, by omega, by omega⟩
theorem rules_ok {l : List Int} (hl : ∀ x ∈ l, (Lit.int .u8 x).wf = true) (p s : Int) (h0 : 0 ≤ p) (h1 : p ≤ 100000000) :
    ∃ sl j m lg lo p' s', spec_l5Cur_rules.f l p s = some (sl, j, m, lg, lo, p', s') ∧ (0 ≤ sl ∧ sl < 80) ∧ (0 ≤ j ∧ j < 6) ∧ (0 ≤ m ∧ m < 30) ∧ (1 ≤ lg ∧ lg ≤ 400) ∧ (0 ≤ lo ∧ lo < 20) ∧ p ≤ p' ∧ p' ≤ p + 12 := by
  unfold spec_l5Cur_rules.f
  obtain ⟨a1, p1, s1, e1, b1, c1⟩ := pick_ok hl p s h0 (by omega) 80 (by omega) (by omega)
  obtain ⟨a2, p2, s2, e2, b2, c2⟩ := pick_ok hl p1 s1 (by omega) (by omega) 6 (by omega) (by omega)
  obtain ⟨a3, p3, s3, e3, b3, c3⟩ := pick_ok hl p2 s2 (by omega) (by omega) 30 (by omega) (by omega)
  obtain ⟨a4, p4, s4, e4, b4, c4⟩ := wide_ok hl p3 s3 (by omega) (by omega) 400 (by omega)
  obtain ⟨a5, p5, s5, e5, b5, c5⟩ := pick_ok hl p4 s4 (by omega) (by omega) 20 (by omega) (by omega)
  obtain ⟨a6, p6, s6, e6, b6, c6⟩ := pick_ok hl p5 s5 (by omega) (by omega) 5 (by omega) (by omega)
  simp only [e1, e2, e3, e4, e5, e6, Option.bind_some]
  rw [w64 (a := 1 + a4) (by omega)]
  split
  · exact ⟨_, _, _, _, _, _, _, rfl, by omega, b2, b3, by omega, b5, by omega, by omega⟩
  · exact ⟨_, _, _, _, _, _, _, rfl, b1, b2, b3, by omega, b5, by omega, by omega⟩
theorem wByte_ok {l : List Int} (hl : ∀ x ∈ l, (Lit.int .u8 x).wf = true) (i : Int) (h0 : 0 ≤ i) : ∃ v, laws_wByte.f l i = some v ∧ 0 ≤ v ∧ v ≤ 255 := by
  unfold laws_wByte.f
  by_cases h : (l.length : Int) = 0
  · rw [if_pos h]
    exact ⟨0, rfl, by omega, by omega⟩
  · rw [if_neg h, Int.tmod_eq_emod_of_nonneg h0]
    have h1 := Int.emod_nonneg i h
    have h2 := Int.emod_lt_of_pos i (show 0 < (l.length : Int) by omega)
    have hb := rd_byte hl _ h1 h2
    rw [if_pos h1, if_pos h2, w64 (by omega)]
    exact ⟨_, rfl, hb⟩
/-- Marks as they are drawn: places rise, names fall. -/
def Drawn (ms : List S82) : Prop := ms.length ≤ 7 ∧ ms.Pairwise (fun x y => x.f1 < y.f1 ∧ y.f0 < x.f0) ∧ ∀ x ∈ ms, (1 ≤ x.f0 ∧ x.f0 ≤ 1000) ∧ (0 ≤ x.f1 ∧ x.f1 ≤ 6000)
theorem marks_loop {l : List Int} (hl : ∀ x ∈ l, (Lit.int .u8 x).wf = true) (d : Nat) : ∀ (k : Nat) (acc : List S82) (at_ c p s : Int), c = d → d < k → (acc.length : Int) + c ≤ 7 → 0 ≤ at_ → at_ ≤ 300 + 700 * (acc.length : Int) →
    0 ≤ p → p ≤ 10000000 + 4 * (acc.length : Int) → acc.Pairwise (fun x y => x.f1 < y.f1 ∧ y.f0 < x.f0) → (∀ x ∈ acc, (1 ≤ x.f0 ∧ x.f0 ≤ 1000) ∧ (0 ≤ x.f1 ∧ x.f1 ≤ 6000) ∧ x.f1 < at_ ∧ 7 * c + 4 < x.f0) →
    ∃ ms p' s', spec_l5Cur_marks.l0 k acc at_ c l p s = some (ms, p', s') ∧ Drawn ms ∧ 0 ≤ p' ∧ p' ≤ 10000100 := by
  induction d with
  | zero =>
    intro k acc at_ c p s hc hk hlen ha ha2 hp hp2 hpw hall
    obtain ⟨k, rfl⟩ : ∃ m, k = m + 1 := ⟨k - 1, by omega⟩
    simp only [spec_l5Cur_marks.l0]
    rw [if_neg (by omega)]
    exact ⟨_, _, _, rfl, ⟨by omega, hpw, fun x hx => ⟨(hall x hx).1, (hall x hx).2.1⟩⟩, by omega, by omega⟩
  | succ d ih =>
    intro k acc at_ c p s hc hk hlen ha ha2 hp hp2 hpw hall
    obtain ⟨k, rfl⟩ : ∃ m, k = m + 1 := ⟨k - 1, by omega⟩
    simp only [spec_l5Cur_marks.l0]
    obtain ⟨a1, p1, s1, e1, b1, c1⟩ := pick_ok hl p s hp (by omega) 3 (by omega) (by omega)
    obtain ⟨a2, p2, s2, e2, b2, c2⟩ := wide_ok hl p1 s1 (by omega) (by omega) 600 (by omega)
    rw [if_pos (by omega), e1]
    simp only [Option.bind_some]
    rw [if_pos (by omega), e2]
    simp only [Option.bind_some]
    rw [w64 (a := 7 * c) (by omega), w64 (a := 1 + 7 * c) (by omega), w64 (a := 1 + 7 * c + a1) (by omega), w64 (a := 1 + a2) (by omega), w64 (a := at_ + (1 + a2)) (by omega), w64 (a := c - 1) (by omega)]
    refine ih k _ _ _ _ _ (by omega) (by omega) (by simp; omega) (by omega) (by simp; omega) (by omega) (by simp; omega) ?_ ?_
    · rw [List.pairwise_append]
      refine ⟨hpw, by simp, fun x hx y hy => ?_⟩
      rw [List.mem_singleton] at hy
      subst hy
      have := hall x hx
      exact ⟨this.2.2.1, by show 1 + 7 * c + a1 < x.f0; omega⟩
    · intro x hx
      rcases List.mem_append.1 hx with hx | hx
      · have := hall x hx
        exact ⟨this.1, this.2.1, by omega, by omega⟩
      · rw [List.mem_singleton] at hx
        subst hx
        refine ⟨⟨?_, ?_⟩, ⟨?_, ?_⟩, ?_, ?_⟩ <;> dsimp only <;> omega
theorem marks_ok {l : List Int} (hl : ∀ x ∈ l, (Lit.int .u8 x).wf = true) (p s : Int) (h0 : 0 ≤ p) (h1 : p ≤ 1000000) {k : Nat} (hk : 8 ≤ k) :
    ∃ ms p' s', spec_l5Cur_marks.f k l p s = some (ms, p', s') ∧ Drawn ms ∧ 0 ≤ p' ∧ p' ≤ 10000100 := by
  unfold spec_l5Cur_marks.f
  obtain ⟨a1, p1, s1, e1, b1, c1⟩ := wide_ok hl p s h0 (by omega) 300 (by omega)
  obtain ⟨a2, p2, s2, e2, b2, c2⟩ := pick_ok hl p1 s1 (by omega) (by omega) 8 (by omega) (by omega)
  simp only [e1, e2, Option.bind_some]
  exact marks_loop hl a2.toNat k [] a1 a2 p2 s2 (by omega) (by omega) (by simp; omega) (by omega) (by simp; omega) (by omega) (by simp; omega) (by simp) (by simp)
theorem known_ok {l : List Int} (hl : ∀ x ∈ l, (Lit.int .u8 x).wf = true) {k : Nat} (hk : 8 ≤ k) :
    ∃ sl j m lg lo ms a b, spec_Known.f k l = some (sl, j, m, lg, lo, ms, true, a, b, 0, (-1), 0) ∧ ((0 ≤ sl ∧ sl < 80) ∧ (0 ≤ j ∧ j < 6) ∧ (0 ≤ m ∧ m < 30) ∧ (1 ≤ lg ∧ lg ≤ 400) ∧ (0 ≤ lo ∧ lo < 20)) ∧ Drawn ms ∧ 0 ≤ a ∧ a < 3000 ∧ a ≤ b ∧ b < a + 400 := by
  unfold spec_Known.f
  obtain ⟨sl, j, m, lg, lo, p1, s1, e1, r1, r2, r3, r4, r5, q1, q2⟩ := rules_ok hl 0 0 (by omega) (by omega)
  obtain ⟨ms, p2, s2, e2, hm, q3, q4⟩ := marks_ok hl p1 s1 (by omega) (by omega) hk
  obtain ⟨a, p3, s3, e3, b3, c3⟩ := wide_ok hl p2 s2 (by omega) (by omega) 3000 (by omega)
  obtain ⟨b, p4, s4, e4, b4, c4⟩ := wide_ok hl p3 s3 (by omega) (by omega) 400 (by omega)
  simp only [e1, e2, e3, e4, Option.bind_some]
  rw [w64 (a := a + b) (by omega)]
  exact ⟨_, _, _, _, _, _, _, _, rfl, ⟨r1, r2, r3, r4, r5⟩, hm, by omega, by omega, by omega, by omega⟩
theorem ceil_add {A B D : Int} (hD : 0 < D) : (A + D - 1) / D + (B + D - 1) / D ≤ (A + B + D - 1) / D + 1 := by
  have h1 := Int.mul_ediv_add_emod (A + D - 1) D
  have h2 := Int.mul_ediv_add_emod (B + D - 1) D
  have h3 := Int.mul_ediv_add_emod (A + B + D - 1) D
  have m1 := Int.emod_nonneg (A + D - 1) (show D ≠ 0 by omega)
  have m2 := Int.emod_nonneg (B + D - 1) (show D ≠ 0 by omega)
  have m3 := Int.emod_lt_of_pos (A + B + D - 1) hD
  generalize (A + D - 1) / D = x at *
  generalize (B + D - 1) / D = y at *
  generalize (A + B + D - 1) / D = z at *
  rw [← Int.lt_add_one_iff]
  apply Int.lt_of_mul_lt_mul_left (a := D) _ (by omega)
  have e1 : D * (x + y) = D * x + D * y := Int.mul_add ..
  have e2 : D * (z + 1 + 1) = D * z + D + D := by rw [Int.mul_add, Int.mul_add, Int.mul_one]
  rw [e1, e2]
  omega
theorem floor_add {A B D : Int} (hD : 0 < D) : (A + B) / D ≤ A / D + B / D + 1 := by
  have h1 := Int.mul_ediv_add_emod A D
  have h2 := Int.mul_ediv_add_emod B D
  have h3 := Int.mul_ediv_add_emod (A + B) D
  have m1 := Int.emod_lt_of_pos A hD
  have m2 := Int.emod_lt_of_pos B hD
  have m3 := Int.emod_nonneg (A + B) (show D ≠ 0 by omega)
  generalize A / D = x at *
  generalize B / D = y at *
  generalize (A + B) / D = z at *
  rw [← Int.lt_add_one_iff]
  apply Int.lt_of_mul_lt_mul_left (a := D) _ (by omega)
  have e1 : D * (x + y + 1 + 1) = D * x + D * y + D + D := by rw [Int.mul_add, Int.mul_add, Int.mul_add, Int.mul_one]
  rw [e1]
  omega
theorem lst_sums {s j a b : Int} (hs : 0 ≤ s) (hj : 0 ≤ j) (ha : 0 ≤ a) (hb : 0 ≤ b) : lst s j a + lst s j b ≤ lst s j (a + b) + 1 := by
  by_cases h1 : 0 < a - j
  · by_cases h2 : 0 < b - j
    · have h := ceil_add (A := 1000 * (a - j)) (B := 1000 * (b - j)) (D := 1000 + s) (by omega)
      have hm : (1000 * (a - j) + 1000 * (b - j) + (1000 + s) - 1) / (1000 + s) ≤ (1000 * (a + b - j) + 999 + s) / (1000 + s) := Int.ediv_le_ediv (by omega) (by omega)
      unfold lst
      rw [if_pos h1, if_pos h2, if_pos (by omega), show 1000 * (a - j) + 999 + s = 1000 * (a - j) + (1000 + s) - 1 by omega, show 1000 * (b - j) + 999 + s = 1000 * (b - j) + (1000 + s) - 1 by omega]
      omega
    · have hm : (1000 * (a - j) + 999 + s) / (1000 + s) ≤ (1000 * (a + b - j) + 999 + s) / (1000 + s) := Int.ediv_le_ediv (by omega) (by omega)
      unfold lst
      rw [if_pos h1, if_neg h2, if_pos (by omega)]
      omega
  · by_cases h2 : 0 < b - j
    · have hm : (1000 * (b - j) + 999 + s) / (1000 + s) ≤ (1000 * (a + b - j) + 999 + s) / (1000 + s) := Int.ediv_le_ediv (by omega) (by omega)
      unfold lst
      rw [if_neg h1, if_pos h2, if_pos (by omega)]
      omega
    · have := lst_nonneg (s := s) (j := j) (c := a + b) hs
      have e1 : lst s j a = 0 := by unfold lst; rw [if_neg h1]
      have e2 : lst s j b = 0 := by unfold lst; rw [if_neg h2]
      omega
theorem mst_sums {s j a b : Int} (hs : s ≤ 500) (hj : 0 ≤ j) (ha : 0 ≤ a) (hb : 0 ≤ b) : mst s j (a + b) ≤ mst s j a + mst s j b + 1 := by
  unfold mst
  have h := floor_add (A := 1000 * (a + j)) (B := 1000 * (b + j)) (D := 1000 - s) (by omega)
  have hm : 1000 * (a + b + j) / (1000 - s) ≤ (1000 * (a + j) + 1000 * (b + j)) / (1000 - s) := Int.ediv_le_ediv (by omega) (by omega)
  omega
/-- How far wheels can have come that counted no more than 4000, under drawn rules. -/
theorem mst_small {s j c : Int} (h0 : 0 ≤ s) (hs : s < 80) (hj : 0 ≤ j ∧ j < 6) (hc : 0 ≤ c ∧ c ≤ 4000) : mst s j c ≤ 10000 := by
  unfold mst
  rw [← Int.lt_add_one_iff, Int.ediv_lt_iff_lt_mul (by omega)]
  omega
theorem FnSums (l0 l1 : List Int) (_ : l0.length * 1 ≤ 140737488351232) (h0 : ∀ x ∈ l0, (Lit.int .u8 x).wf = true) (_ : l1.length * 1 ≤ 140737488351232) (h1 : ∀ x ∈ l1, (Lit.int .u8 x).wf = true) : ∃ k, laws_FnSums.f k l0 l1 = some true := by
  refine ⟨300000, ?_⟩
  have hj0 : ∀ b, laws_FnSums.j0 300000 l0 l1 b = some true := by
    intro b
    simp only [laws_FnSums.j0]
    cases b with
    | true => rfl
    | false =>
      rw [if_neg (by decide)]
      obtain ⟨s, j, m, lg, lo, ms, a, b, e, ⟨r1, r2, r3, r4, r5⟩, hm, b1, b2, b3, b4⟩ := known_ok h0 (k := 299999) (by omega)
      obtain ⟨x0, y0, z0⟩ := wByte_ok h1 0 (by omega)
      obtain ⟨x1, y1, z1⟩ := wByte_ok h1 1 (by omega)
      obtain ⟨x2, y2, z2⟩ := wByte_ok h1 2 (by omega)
      obtain ⟨x3, y3, z3⟩ := wByte_ok h1 3 (by omega)
      simp only [e, y0, y1, y2, y3, Option.bind_some]
      rw [w64 (a := 256 * x1) (by omega), w64 (a := 256 * x3) (by omega), w64 (a := x0 + 256 * x1) (by omega), w64 (a := x2 + 256 * x3) (by omega), Int.tmod_eq_emod_of_nonneg (show 0 ≤ x0 + 256 * x1 by omega), Int.tmod_eq_emod_of_nonneg (show 0 ≤ x2 + 256 * x3 by omega)]
      obtain ⟨u, hu⟩ : ∃ u, u = (x0 + 256 * x1) % 2000 := ⟨_, rfl⟩
      obtain ⟨v, hv⟩ : ∃ v, v = (x2 + 256 * x3) % 2000 := ⟨_, rfl⟩
      rw [← hu, ← hv]
      have u0 : 0 ≤ u ∧ u < 2000 := by omega
      have v0 : 0 ≤ v ∧ v < 2000 := by omega
      clear hu hv
      have hr : okR s j m lg lo := by omega
      rw [w64 (a := u + v) (by omega)]
      simp only [impl_Wheel_eq _ _ _ _ _ _ _ _ (show 1 ≤ 299999 by omega), spec_Wheel_eq _ _ _ _ _ _ _ _ (show 220000 ≤ 299999 by omega), Option.bind_some]
      have l1 := lst_nonneg (s := s) (j := j) (c := u) (by omega)
      have l2 := lst_nonneg (s := s) (j := j) (c := v) (by omega)
      have l3 := lst_nonneg (s := s) (j := j) (c := u + v) (by omega)
      have k1 := lst_le (s := s) (j := j) (c := u) (by omega) (by omega) (by omega)
      have k2 := lst_le (s := s) (j := j) (c := v) (by omega) (by omega) (by omega)
      have k3 := lst_le (s := s) (j := j) (c := u + v) (by omega) (by omega) (by omega)
      have m1 := mst_small (s := s) (j := j) (c := u) (by omega) (by omega) (by omega) (by omega)
      have m2 := mst_small (s := s) (j := j) (c := v) (by omega) (by omega) (by omega) (by omega)
      have m3 := mst_small (s := s) (j := j) (c := u + v) (by omega) (by omega) (by omega) (by omega)
      have n1 := le_mst (s := s) (j := j) (c := u) (by omega) (by omega) (by omega) (by omega)
      have n2 := le_mst (s := s) (j := j) (c := v) (by omega) (by omega) (by omega) (by omega)
      have n3 := le_mst (s := s) (j := j) (c := u + v) (by omega) (by omega) (by omega) (by omega)
      have q1 := lst_sums (s := s) (j := j) (a := u) (b := v) (by omega) (by omega) (by omega) (by omega)
      have q2 := mst_sums (s := s) (j := j) (a := u) (b := v) (by omega) (by omega) (by omega) (by omega)
      have e1 : wheelV s j m lg lo a b u = (a + lst s j u, b + mst s j u) := by
        unfold wheelV stay
        rw [if_pos ⟨hr, by omega, by omega⟩, Prod.mk.injEq]
        omega
      have e2 : wheelV s j m lg lo a b (u + v) = (a + lst s j (u + v), b + mst s j (u + v)) := by
        unfold wheelV stay
        rw [if_pos ⟨hr, by omega, by omega⟩, Prod.mk.injEq]
        omega
      have e3 : wheelV s j m lg lo (a + lst s j u) (b + mst s j u) v = (a + lst s j u + lst s j v, b + mst s j u + mst s j v) := by
        unfold wheelV stay
        rw [if_pos ⟨hr, by omega, by omega⟩, Prod.mk.injEq]
        omega
      simp only [e1, e2, e3]
      rw [w64 (a := a + lst s j (u + v) + 1) (by omega), w64 (a := b + mst s j u + mst s j v + 1) (by omega), if_pos (by omega), if_pos (by omega)]
      simp
  unfold laws_FnSums.f
  split <;> exact hj0 _
end Go.Proofs.Ytelocbgcoebbmaa.Pure
