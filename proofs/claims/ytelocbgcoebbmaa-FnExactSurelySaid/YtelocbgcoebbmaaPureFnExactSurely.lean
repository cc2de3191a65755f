/- The plain law of laws.FnExactSurely: what the printed functions compute answers true at every input, in plain Lean, without Go and memory. Its conditions: each number is an int64, each slice takes fewer than 2^47 bytes. -/
import Derived.Test.YtelocbgcoebbmaaPFnExactSurelyx3
namespace Go.Proofs.Ytelocbgcoebbmaa.Pure
open Go.RowKit Go.Proofs.Ytelocbgcoebbmaa.PFnExactSurely Go.Proofs.YtelocbgcoebbmaaW.PrintWords Go.Proofs.YtelocbgcoebbmaaW.PrintLast Go.Proofs.YtelocbgcoebbmaaW.PrintMore
set_option linter.unusedVariables false
set_option linter.unusedSimpArgs false
theorem sd {p : Prop} [Decidable p] {b : Bool} (h : b = true ↔ p) : some b = some (decide p) := by
  cases b <;> simp_all
abbrev okR (s j m l o : Int) : Prop := 0 ≤ s ∧ s ≤ 500 ∧ 0 ≤ j ∧ j ≤ 1000 ∧ 0 ≤ m ∧ m ≤ 10000 ∧ 1 ≤ l ∧ l ≤ 1000000 ∧ 0 ≤ o ∧ o ≤ 10000
abbrev okB (a b : Int) : Prop := -100000000 ≤ a ∧ a ≤ b ∧ b ≤ 100000000
abbrev okE (op n : Int) : Prop := (op = 1 ∧ 0 ≤ n ∧ n ≤ 100000) ∨ (op = 2 ∧ 1 ≤ n ∧ n ≤ 1000000000) ∨ ((op = 3 ∨ op = 4) ∧ n = 0)
theorem wf64 {a : Int} (h : (Lit.int .i64 a).wf = true) : -9223372036854775808 ≤ a ∧ a ≤ 9223372036854775807 := by
  have h' := h
  simp [Lit.wf, IntKind.min, IntKind.max, IntKind.signed, IntKind.bits] at h'
  omega
theorem spec_l1in_eq (x a b : Int) : spec_l1in.f x a b = some (decide (a ≤ x ∧ x ≤ b)) := by
  unfold spec_l1in.f
  split <;> (apply sd; simp only [decide_eq_true_eq, Bool.false_eq_true, false_iff]; omega)
theorem impl_in_eq (x a b : Int) : impl_in.f x a b = some (decide (a ≤ x ∧ x ≤ b)) := by
  unfold impl_in.f
  split <;> (apply sd; simp only [decide_eq_true_eq, Bool.false_eq_true, false_iff]; omega)
theorem spec_BoundOk_eq (a b : Int) : spec_BoundOk.f a b = some (decide (okB a b)) := by
  simp only [spec_BoundOk.f, spec_l1in_eq, Option.bind_some, decide_eq_true_eq]
  split <;> (apply sd; simp only [decide_eq_true_eq, Bool.false_eq_true, false_iff]; omega)
theorem impl_BoundOk_eq (a b : Int) : impl_BoundOk.f a b = some (decide (okB a b)) := by
  simp only [impl_BoundOk.f, impl_in_eq, Option.bind_some, decide_eq_true_eq]
  split <;> (apply sd; simp only [decide_eq_true_eq, Bool.false_eq_true, false_iff]; omega)
theorem spec_RulesOk_eq (s j m l o : Int) : spec_RulesOk.f s j m l o = some (decide (okR s j m l o)) := by
  simp only [spec_RulesOk.f, spec_l1in_eq, Option.bind_some, decide_eq_true_eq]
  (repeat' split) <;> (apply sd; simp only [decide_eq_true_eq, Bool.false_eq_true, false_iff]; omega)
theorem impl_RulesOk_eq (s j m l o : Int) : impl_RulesOk.f s j m l o = some (decide (okR s j m l o)) := by
  simp only [impl_RulesOk.f, impl_in_eq, Option.bind_some, decide_eq_true_eq]
  (repeat' split) <;> (apply sd; simp only [decide_eq_true_eq, Bool.false_eq_true, false_iff]; omega)
theorem spec_l3state_eq (s j m l o : Int) (k : Bool) (lo hi x y z : Int) : spec_l3state.f s j m l o k lo hi x y z = some (decide (okR s j m l o ∧ k = true ∧ okB lo hi)) := by
  simp only [spec_l3state.f, spec_RulesOk_eq, spec_BoundOk_eq, Option.bind_some, decide_eq_true_eq]
  split
  · rename_i h1
    cases k
    · rw [if_neg (by decide)]
      exact congrArg some (decide_eq_false (fun h => by cases h.2.1)).symm
    · rw [if_pos rfl]
      exact congrArg some (decide_eq_decide.2 ⟨fun h => ⟨h1, rfl, h⟩, fun h => h.2.2⟩)
  · rename_i h1
    exact congrArg some (decide_eq_false (fun h => h1 h.1)).symm
theorem impl_told_eq (s j m l o : Int) (k : Bool) (lo hi x y z : Int) : impl_told.f s j m l o k lo hi x y z = some (decide (okR s j m l o ∧ k = true ∧ okB lo hi)) := by
  simp only [impl_told.f, impl_RulesOk_eq, impl_BoundOk_eq, Option.bind_some, decide_eq_true_eq]
  split
  · rename_i h1
    cases k
    · rw [if_neg (by decide)]
      exact congrArg some (decide_eq_false (fun h => by cases h.2.1)).symm
    · rw [if_pos rfl]
      exact congrArg some (decide_eq_decide.2 ⟨fun h => ⟨h1, rfl, h⟩, fun h => h.2.2⟩)
  · rename_i h1
    exact congrArg some (decide_eq_false (fun h => h1 h.1)).symm
theorem laws_eqBound_eq (a b c d : Int) : laws_eqBound.f a b c d = some (decide (a = c ∧ b = d)) := by
  unfold laws_eqBound.f
  (repeat' split) <;> (apply sd; simp only [Bool.false_eq_true, false_iff, true_iff]; omega)
theorem laws_toState_eq (k : Bool) (a b c d e : Int) : laws_toState.f k a b c d e = some (k, a, b, c, d, e) := rfl
theorem w64 {a : Int} (h : -9223372036854775808 ≤ a ∧ a ≤ 9223372036854775807) : wrap64 a = a := by unfold wrap64; omega
/-- The least and the most that wheels can have come, in closed form. -/
def lst (s j c : Int) : Int := if 0 < c - j then (1000 * (c - j) + 999 + s) / (1000 + s) else 0
def mst (s j c : Int) : Int := 1000 * (c + j) / (1000 - s)
def stay (x : Int) : Int := max (-100000000) (min x 100000000)
theorem lst_le_iff {s j c x : Int} (hs : 0 ≤ s) (hx : 0 ≤ x) : lst s j c ≤ x ↔ 1000 * (c - j) ≤ 1000 * x + s * x := by
  have hp : 0 ≤ s * x := Int.mul_nonneg hs hx
  unfold lst
  split
  · rw [← Int.lt_add_one_iff, Int.ediv_lt_iff_lt_mul (by omega)]
    have e : (x + 1) * (1000 + s) = 1000 * x + s * x + 1000 + s := by
      rw [Int.add_mul, Int.mul_add, Int.mul_comm x 1000, Int.mul_comm x s]; omega
    rw [e]
    omega
  · constructor
    · intro _; omega
    · intro _; exact hx
theorem lst_nonneg {s j c : Int} (hs : 0 ≤ s) : 0 ≤ lst s j c := by
  unfold lst
  split
  · exact Int.ediv_nonneg (by omega) (by omega)
  · omega
theorem le_mst_iff {s j c x : Int} (hs : s ≤ 500) : x ≤ mst s j c ↔ 1000 * x - s * x ≤ 1000 * (c + j) := by
  unfold mst
  rw [Int.le_ediv_iff_mul_le (by omega)]
  have e : x * (1000 - s) = 1000 * x - s * x := by rw [Int.mul_sub, Int.mul_comm x 1000, Int.mul_comm x s]
  rw [e]
theorem mst_le {s j c : Int} (h0 : 0 ≤ s) (hs : s ≤ 500) (hj : 0 ≤ j ∧ j ≤ 1000) (hc : 0 ≤ c ∧ c ≤ 100000) : mst s j c ≤ 202000 := by
  unfold mst
  rw [← Int.lt_add_one_iff, Int.ediv_lt_iff_lt_mul (by omega)]
  omega
theorem lst_le {s j c : Int} (h0 : 0 ≤ s) (hj : 0 ≤ j) (hc : 0 ≤ c) : lst s j c ≤ c := by
  have hp : 0 ≤ s * c := Int.mul_nonneg h0 hc
  rw [lst_le_iff h0 hc]; omega
theorem le_mst {s j c : Int} (h0 : 0 ≤ s) (hs : s ≤ 500) (hj : 0 ≤ j) (hc : 0 ≤ c) : c ≤ mst s j c := by
  have hp : 0 ≤ s * c := Int.mul_nonneg h0 hc
  rw [le_mst_iff hs]; omega
theorem sx_bd {s x : Int} (h0 : 0 ≤ s) (hs : s ≤ 500) (hx : 0 ≤ x) (hx2 : x ≤ 300000) : 0 ≤ s * x ∧ s * x ≤ 150000000 := by
  refine ⟨Int.mul_nonneg h0 hx, ?_⟩
  have := Int.mul_le_mul hs hx2 hx (by omega)
  omega
abbrev fairP (s j x c : Int) : Prop := 1000 * (x - c) ≤ s * x + 1000 * j ∧ 1000 * (c - x) ≤ s * x + 1000 * j
/-- What Wheel answers. -/
def wheelV (s j m l o a b c : Int) : Int × Int := if okR s j m l o ∧ okB a b ∧ (0 ≤ c ∧ c ≤ 100000) then (stay (a + lst s j c), stay (b + mst s j c)) else (0, 0)
/-- What Read answers. -/
def readV (s j m l o a b x : Int) : Int × Int :=
  if okR s j m l o ∧ okB a b ∧ (0 ≤ x ∧ x ≤ 100000000) then
    (if a ≤ stay (x + m) ∧ stay (x - m) ≤ b then (max a (stay (x - m)), min b (stay (x + m))) else (min a (stay (x - m)), max b (stay (x + m)))) else (0, 0)
theorem FnExactSurely (s j m l o : Int) (k : Bool) (lo hi x y z : Int) (_ : (Lit.int .i64 s).wf = true) (_ : (Lit.int .i64 j).wf = true) (_ : (Lit.int .i64 m).wf = true) (_ : (Lit.int .i64 l).wf = true) (_ : (Lit.int .i64 o).wf = true)
    (_ : (Lit.int .i64 lo).wf = true) (_ : (Lit.int .i64 hi).wf = true) (_ : (Lit.int .i64 x).wf = true) (_ : (Lit.int .i64 y).wf = true) (_ : (Lit.int .i64 z).wf = true) : laws_FnExactSurely.f s j m l o k lo hi x y z = some true := by
  have h : ∃ r, spec_Surely.f s j m l o k lo hi x y z = some r ∧ impl_Surely.f s j m l o k lo hi x y z = some r := by
    simp only [spec_Surely.f, impl_Surely.f, spec_l3state_eq, impl_told_eq, Option.bind_some, decide_eq_true_eq]
    by_cases h1 : okR s j m l o ∧ k = true ∧ okB lo hi
    · simp only [if_pos h1]
      obtain ⟨hr, _, hb⟩ := h1
      unfold mx
      rw [w64 (a := l - o) (by omega), w64 (a := hi - l) (by omega), w64 (a := hi - l + o) (by omega), w64 (a := hi - (if 0 < l - o then l - o else 0)) (by split <;> omega)]
      by_cases h2 : o > l
      · have e : hi - (if 0 < l - o then l - o else 0) = hi := by split <;> omega
        rw [if_pos h2, e]
        by_cases h3 : hi > lo
        · exact ⟨(1, 0), by rw [if_pos h3], by rw [if_pos h3]⟩
        · exact ⟨(hi, lo), by rw [if_neg h3], by rw [if_neg h3]⟩
      · have e : hi - (if 0 < l - o then l - o else 0) = hi - l + o := by split <;> omega
        rw [if_neg h2, e]
        by_cases h3 : hi - l + o > lo
        · exact ⟨(1, 0), by rw [if_pos h3], by rw [if_pos h3]⟩
        · exact ⟨(hi - l + o, lo), by rw [if_neg h3], by rw [if_neg h3]⟩
    · simp only [if_neg h1]
      exact ⟨_, rfl, rfl⟩
  obtain ⟨⟨r, q⟩, h1, h2⟩ := h
  simp only [laws_FnExactSurely.f, laws_toRules.f, laws_toState_eq, Option.bind_some, h1, h2, laws_eqBound_eq, and_self, decide_true, if_true]
end Go.Proofs.Ytelocbgcoebbmaa.Pure
