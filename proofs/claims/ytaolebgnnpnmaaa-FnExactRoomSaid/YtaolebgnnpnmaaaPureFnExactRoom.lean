/- The plain law of laws.FnExactRoom: what the printed functions compute answers true at every input, in plain Lean, without Go and memory. Its conditions: each number is an int64, each slice takes fewer than 2^47 bytes. -/
import Derived.Test.YtaolebgnnpnmaaaPFnExactRoomx2
namespace Go.Proofs.Ytaolebgnnpnmaaa.Pure
open Go.RowKit Go.Proofs.Ytaolebgnnpnmaaa.PFnExactRoom Go.Proofs.YtaolebgnnpnmaaaW.PrintWords Go.Proofs.YtaolebgnnpnmaaaW.PrintLast Go.Proofs.YtaolebgnnpnmaaaW.PrintMore
set_option linter.unusedVariables false
set_option linter.unusedSimpArgs false
theorem sd {p : Prop} [Decidable p] {b : Bool} (h : b = true ↔ p) : some b = some (decide p) := by
  cases b <;> simp_all
abbrev okR (s j m l o : Int) : Prop := 0 ≤ s ∧ s ≤ 500 ∧ 0 ≤ j ∧ j ≤ 1000 ∧ 0 ≤ m ∧ m ≤ 10000 ∧ 1 ≤ l ∧ l ≤ 1000000 ∧ 0 ≤ o ∧ o ≤ 10000
abbrev okB (a b : Int) : Prop := -100000000 ≤ a ∧ a ≤ b ∧ b ≤ 100000000
abbrev okE (op n : Int) : Prop := (op = 1 ∧ 0 ≤ n ∧ n ≤ 100000) ∨ (op = 2 ∧ 1 ≤ n ∧ n ≤ 1000000000) ∨ ((op = 3 ∨ op = 4) ∧ n = 0)
theorem wf64 {a : Int} (h : (Lit.int .i64 a).wf = true) : -9223372036854775808 ≤ a ∧ a ≤ 9223372036854775807 := by
  have h' := h
  simp [Lit.wf, IntKind.min, IntKind.max, IntKind.signed, IntKind.bits] at h'
  omega
theorem spec_l1in_eq (x a b : Int) : spec_l1in.f x a b = some (decide (a ≤ x ∧ x ≤ b)) := by
  unfold spec_l1in.f
  split <;> (apply sd; simp only [decide_eq_true_eq, Bool.false_eq_true, false_iff]; omega)
theorem impl_in_eq (x a b : Int) : impl_in.f x a b = some (decide (a ≤ x ∧ x ≤ b)) := by
  unfold impl_in.f
  split <;> (apply sd; simp only [decide_eq_true_eq, Bool.false_eq_true, false_iff]; omega)
theorem spec_BoundOk_eq (a b : Int) : spec_BoundOk.f a b = some (decide (okB a b)) := by
  simp only [spec_BoundOk.f, spec_l1in_eq, Option.bind_some, decide_eq_true_eq]
  split <;> (apply sd; simp only [decide_eq_true_eq, Bool.false_eq_true, false_iff]; omega)
theorem impl_BoundOk_eq (a b : Int) : impl_BoundOk.f a b = some (decide (okB a b)) := by
  simp only [impl_BoundOk.f, impl_in_eq, Option.bind_some, decide_eq_true_eq]
  split <;> (apply sd; simp only [decide_eq_true_eq, Bool.false_eq_true, false_iff]; omega)
theorem spec_RulesOk_eq (s j m l o : Int) : spec_RulesOk.f s j m l o = some (decide (okR s j m l o)) := by
  simp only [spec_RulesOk.f, spec_l1in_eq, Option.bind_some, decide_eq_true_eq]
  (repeat' split) <;> (apply sd; simp only [decide_eq_true_eq, Bool.false_eq_true, false_iff]; omega)
theorem impl_RulesOk_eq (s j m l o : Int) : impl_RulesOk.f s j m l o = some (decide (okR s j m l o)) := by
  simp only [impl_RulesOk.f, impl_in_eq, Option.bind_some, decide_eq_true_eq]
  (repeat' split) <;> (apply sd; simp only [decide_eq_true_eq, Bool.false_eq_true, false_iff]; omega)
theorem spec_l3state_eq (s j m l o : Int) (k : Bool) (lo hi x y z : Int) : spec_l3state.f s j m l o k lo hi x y z = some (decide (okR s j m l o ∧ k = true ∧ okB lo hi)) := by
  simp only [spec_l3state.f, spec_RulesOk_eq, spec_BoundOk_eq, Option.bind_some, decide_eq_true_eq]
  split
  · rename_i h1
    cases k
    · rw [if_neg (by decide)]
      exact congrArg some (decide_eq_false (fun h => by cases h.2.1)).symm
    · rw [if_pos rfl]
      exact congrArg some (decide_eq_decide.2 ⟨fun h => ⟨h1, rfl, h⟩, fun h => h.2.2⟩)
  · rename_i h1
    exact congrArg some (decide_eq_false (fun h => h1 h.1)).symm
theorem impl_told_eq (s j m l o : Int) (k : Bool) (lo hi x y z : Int) : impl_told.f s j m l o k lo hi x y z = some (decide (okR s j m l o ∧ k = true ∧ okB lo hi)) := by
  simp only [impl_told.f, impl_RulesOk_eq, impl_BoundOk_eq, Option.bind_some, decide_eq_true_eq]
  split
  · rename_i h1
    cases k
    · rw [if_neg (by decide)]
      exact congrArg some (decide_eq_false (fun h => by cases h.2.1)).symm
    · rw [if_pos rfl]
      exact congrArg some (decide_eq_decide.2 ⟨fun h => ⟨h1, rfl, h⟩, fun h => h.2.2⟩)
  · rename_i h1
    exact congrArg some (decide_eq_false (fun h => h1 h.1)).symm
theorem laws_toState_eq (k : Bool) (a b c d e : Int) : laws_toState.f k a b c d e = some (k, a, b, c, d, e) := rfl
theorem FnExactRoom (s j m l o : Int) (k : Bool) (lo hi x y z at_ : Int) (_ : (Lit.int .i64 s).wf = true) (_ : (Lit.int .i64 j).wf = true) (_ : (Lit.int .i64 m).wf = true) (_ : (Lit.int .i64 l).wf = true) (_ : (Lit.int .i64 o).wf = true)
    (_ : (Lit.int .i64 lo).wf = true) (_ : (Lit.int .i64 hi).wf = true) (_ : (Lit.int .i64 x).wf = true) (_ : (Lit.int .i64 y).wf = true) (_ : (Lit.int .i64 z).wf = true) (_ : (Lit.int .i64 at_).wf = true) : laws_FnExactRoom.f s j m l o k lo hi x y z at_ = some true := by
  have h : spec_Room.f s j m l o k lo hi x y z at_ = impl_Room.f s j m l o k lo hi x y z at_ := by
    simp only [spec_Room.f, impl_Room.f, spec_l3state_eq, impl_told_eq, spec_l1in_eq, impl_in_eq]
  obtain ⟨r, hr⟩ : ∃ r, impl_Room.f s j m l o k lo hi x y z at_ = some r := by
    simp only [impl_Room.f, impl_told_eq, impl_in_eq, Option.bind_some]
    (repeat' split) <;> exact ⟨_, rfl⟩
  simp only [laws_FnExactRoom.f, laws_toRules.f, laws_toState_eq, Option.bind_some, h, hr, if_true]
end Go.Proofs.Ytaolebgnnpnmaaa.Pure
