/- The plain law of laws.FnExactBoth: what the printed functions compute answers true at every input, in plain Lean, without Go and memory. Its conditions: each number is an int64, each slice takes fewer than 2^47 bytes. -/
import Derived.Test.YtaolebgnnpnmaaaPFnExactBothx2
namespace Go.Proofs.Ytaolebgnnpnmaaa.Pure
open Go.RowKit Go.Proofs.Ytaolebgnnpnmaaa.PFnExactBoth Go.Proofs.YtaolebgnnpnmaaaW.PrintWords Go.Proofs.YtaolebgnnpnmaaaW.PrintLast Go.Proofs.YtaolebgnnpnmaaaW.PrintMore
set_option linter.unusedVariables false
set_option linter.unusedSimpArgs false
theorem sd {p : Prop} [Decidable p] {b : Bool} (h : b = true ↔ p) : some b = some (decide p) := by
  cases b <;> simp_all
abbrev okR (s j m l o : Int) : Prop := 0 ≤ s ∧ s ≤ 500 ∧ 0 ≤ j ∧ j ≤ 1000 ∧ 0 ≤ m ∧ m ≤ 10000 ∧ 1 ≤ l ∧ l ≤ 1000000 ∧ 0 ≤ o ∧ o ≤ 10000
abbrev okB (a b : Int) : Prop := -100000000 ≤ a ∧ a ≤ b ∧ b ≤ 100000000
abbrev okE (op n : Int) : Prop := (op = 1 ∧ 0 ≤ n ∧ n ≤ 100000) ∨ (op = 2 ∧ 1 ≤ n ∧ n ≤ 1000000000) ∨ ((op = 3 ∨ op = 4) ∧ n = 0)
theorem wf64 {a : Int} (h : (Lit.int .i64 a).wf = true) : -9223372036854775808 ≤ a ∧ a ≤ 9223372036854775807 := by
  have h' := h
  simp [Lit.wf, IntKind.min, IntKind.max, IntKind.signed, IntKind.bits] at h'
  omega
theorem spec_Meets_eq (a b c d : Int) : spec_Meets.f a b c d = some (decide (a ≤ d ∧ c ≤ b)) := by
  unfold spec_Meets.f
  split <;> (apply sd; simp only [decide_eq_true_eq, Bool.false_eq_true, false_iff]; omega)
theorem impl_Meets_eq (a b c d : Int) : impl_Meets.f a b c d = some (decide (a ≤ d ∧ c ≤ b)) := by
  unfold impl_Meets.f
  split <;> (apply sd; simp only [decide_eq_true_eq, Bool.false_eq_true, false_iff]; omega)
theorem laws_eqBound_eq (a b c d : Int) : laws_eqBound.f a b c d = some (decide (a = c ∧ b = d)) := by
  unfold laws_eqBound.f
  (repeat' split) <;> (apply sd; simp only [Bool.false_eq_true, false_iff, true_iff]; omega)
theorem spec_Both_eq (a b c d : Int) : spec_Both.f a b c d = some (if a ≤ d ∧ c ≤ b then (max a c, min b d) else (0, 0)) := by
  simp only [spec_Both.f, spec_Meets_eq, Option.bind_some, decide_eq_true_eq]
  (repeat' split) <;> simp only [Option.some.injEq, Prod.mk.injEq] <;> omega
theorem impl_Both_eq (a b c d : Int) : impl_Both.f a b c d = some (if a ≤ d ∧ c ≤ b then (max a c, min b d) else (0, 0)) := by
  simp only [impl_Both.f, impl_Meets_eq, Option.bind_some, decide_eq_true_eq]
  unfold mx mn
  (repeat' split) <;> simp only [Option.some.injEq, Prod.mk.injEq] <;> omega
theorem FnExactBoth (a b c d : Int) (_ : (Lit.int .i64 a).wf = true) (_ : (Lit.int .i64 b).wf = true) (_ : (Lit.int .i64 c).wf = true) (_ : (Lit.int .i64 d).wf = true) : laws_FnExactBoth.f a b c d = some true := by
  simp [laws_FnExactBoth.f, laws_toBound.f, spec_Both_eq, impl_Both_eq, laws_eqBound_eq]
end Go.Proofs.Ytaolebgnnpnmaaa.Pure
