/- The plain law of laws.FnExactRulesOk: what the printed functions compute answers true at every input, in plain Lean, without Go and memory. Its conditions: each number is an int64, each slice takes fewer than 2^47 bytes. -/
import Derived.Test.YtaolebgnnpnmaaaPFnExactRulesOkx1
namespace Go.Proofs.Ytaolebgnnpnmaaa.Pure
open Go.RowKit Go.Proofs.Ytaolebgnnpnmaaa.PFnExactRulesOk Go.Proofs.YtaolebgnnpnmaaaW.PrintWords Go.Proofs.YtaolebgnnpnmaaaW.PrintLast Go.Proofs.YtaolebgnnpnmaaaW.PrintMore
set_option linter.unusedVariables false
set_option linter.unusedSimpArgs false
theorem sd {p : Prop} [Decidable p] {b : Bool} (h : b = true ↔ p) : some b = some (decide p) := by
  cases b <;> simp_all
abbrev okR (s j m l o : Int) : Prop := 0 ≤ s ∧ s ≤ 500 ∧ 0 ≤ j ∧ j ≤ 1000 ∧ 0 ≤ m ∧ m ≤ 10000 ∧ 1 ≤ l ∧ l ≤ 1000000 ∧ 0 ≤ o ∧ o ≤ 10000
abbrev okB (a b : Int) : Prop := -100000000 ≤ a ∧ a ≤ b ∧ b ≤ 100000000
abbrev okE (op n : Int) : Prop := (op = 1 ∧ 0 ≤ n ∧ n ≤ 100000) ∨ (op = 2 ∧ 1 ≤ n ∧ n ≤ 1000000000) ∨ ((op = 3 ∨ op = 4) ∧ n = 0)
theorem wf64 {a : Int} (h : (Lit.int .i64 a).wf = true) : -9223372036854775808 ≤ a ∧ a ≤ 9223372036854775807 := by
  have h' := h
  simp [Lit.wf, IntKind.min, IntKind.max, IntKind.signed, IntKind.bits] at h'
  omega
theorem spec_l1in_eq (x a b : Int) : spec_l1in.f x a b = some (decide (a ≤ x ∧ x ≤ b)) := by
  unfold spec_l1in.f
  split <;> (apply sd; simp only [decide_eq_true_eq, Bool.false_eq_true, false_iff]; omega)
theorem impl_in_eq (x a b : Int) : impl_in.f x a b = some (decide (a ≤ x ∧ x ≤ b)) := by
  unfold impl_in.f
  split <;> (apply sd; simp only [decide_eq_true_eq, Bool.false_eq_true, false_iff]; omega)
theorem spec_RulesOk_eq (s j m l o : Int) : spec_RulesOk.f s j m l o = some (decide (okR s j m l o)) := by
  simp only [spec_RulesOk.f, spec_l1in_eq, Option.bind_some, decide_eq_true_eq]
  (repeat' split) <;> (apply sd; simp only [decide_eq_true_eq, Bool.false_eq_true, false_iff]; omega)
theorem impl_RulesOk_eq (s j m l o : Int) : impl_RulesOk.f s j m l o = some (decide (okR s j m l o)) := by
  simp only [impl_RulesOk.f, impl_in_eq, Option.bind_some, decide_eq_true_eq]
  (repeat' split) <;> (apply sd; simp only [decide_eq_true_eq, Bool.false_eq_true, false_iff]; omega)
theorem FnExactRulesOk (s j m l o : Int) (_ : (Lit.int .i64 s).wf = true) (_ : (Lit.int .i64 j).wf = true) (_ : (Lit.int .i64 m).wf = true) (_ : (Lit.int .i64 l).wf = true) (_ : (Lit.int .i64 o).wf = true) : laws_FnExactRulesOk.f s j m l o = some true := by
  simp [laws_FnExactRulesOk.f, laws_toRules.f, spec_RulesOk_eq, impl_RulesOk_eq]
end Go.Proofs.Ytaolebgnnpnmaaa.Pure
