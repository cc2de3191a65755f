/- The plain law of laws.FnTrue: what the printed functions compute answers true at every input, in plain Lean, without Go and memory. Its conditions: each number is an int64, each slice takes fewer than 2^47 bytes. -/
import Derived.Test.YtommdabkkgcgbaaQFnTruex13
namespace Go.Proofs.Ytommdabkkgcgbaa.Pure
open Go.RowKit Go.Proofs.Ytommdabkkgcgbaa.QFnTrue Go.Proofs.YtommdabkkgcgbaaW.PrintWords Go.Proofs.YtommdabkkgcgbaaW.PrintLast Go.Proofs.YtommdabkkgcgbaaW.PrintMore
set_option linter.unusedVariables false
set_option linter.unusedSimpArgs false
theorem sd {p : Prop} [Decidable p] {b : Bool} (h : b = true ↔ p) : some b = some (decide p) := by
  cases b <;> simp_all
abbrev okR (s j m l o : Int) : Prop := 0 ≤ s ∧ s ≤ 500 ∧ 0 ≤ j ∧ j ≤ 1000 ∧ 0 ≤ m ∧ m ≤ 10000 ∧ 1 ≤ l ∧ l ≤ 1000000 ∧ 0 ≤ o ∧ o ≤ 10000
abbrev okB (a b : Int) : Prop := -100000000 ≤ a ∧ a ≤ b ∧ b ≤ 100000000
abbrev okE (op n : Int) : Prop := (op = 1 ∧ 0 ≤ n ∧ n ≤ 100000) ∨ (op = 2 ∧ 1 ≤ n ∧ n ≤ 1000000000) ∨ ((op = 3 ∨ op = 4) ∧ n = 0)
theorem wf64 {a : Int} (h : (Lit.int .i64 a).wf = true) : -9223372036854775808 ≤ a ∧ a ≤ 9223372036854775807 := by
  have h' := h
  simp [Lit.wf, IntKind.min, IntKind.max, IntKind.signed, IntKind.bits] at h'
  omega
theorem spec_l1in_eq (x a b : Int) : spec_l1in.f x a b = some (decide (a ≤ x ∧ x ≤ b)) := by
  unfold spec_l1in.f
  split <;> (apply sd; simp only [decide_eq_true_eq, Bool.false_eq_true, false_iff]; omega)
theorem impl_in_eq (x a b : Int) : impl_in.f x a b = some (decide (a ≤ x ∧ x ≤ b)) := by
  unfold impl_in.f
  split <;> (apply sd; simp only [decide_eq_true_eq, Bool.false_eq_true, false_iff]; omega)
theorem impl_BoundOk_eq (a b : Int) : impl_BoundOk.f a b = some (decide (okB a b)) := by
  simp only [impl_BoundOk.f, impl_in_eq, Option.bind_some, decide_eq_true_eq]
  split <;> (apply sd; simp only [decide_eq_true_eq, Bool.false_eq_true, false_iff]; omega)
theorem spec_RulesOk_eq (s j m l o : Int) : spec_RulesOk.f s j m l o = some (decide (okR s j m l o)) := by
  simp only [spec_RulesOk.f, spec_l1in_eq, Option.bind_some, decide_eq_true_eq]
  (repeat' split) <;> (apply sd; simp only [decide_eq_true_eq, Bool.false_eq_true, false_iff]; omega)
theorem impl_RulesOk_eq (s j m l o : Int) : impl_RulesOk.f s j m l o = some (decide (okR s j m l o)) := by
  simp only [impl_RulesOk.f, impl_in_eq, Option.bind_some, decide_eq_true_eq]
  (repeat' split) <;> (apply sd; simp only [decide_eq_true_eq, Bool.false_eq_true, false_iff]; omega)
theorem impl_EventOk_eq (op n : Int) : impl_EventOk.f op n = some (decide (okE op n)) := by
  simp only [impl_EventOk.f, impl_in_eq, Option.bind_some]
  (repeat' split) <;> (apply sd; simp only [decide_eq_true_eq, beq_iff_eq, Bool.false_eq_true, false_iff]; omega)
theorem impl_Meets_eq (a b c d : Int) : impl_Meets.f a b c d = some (decide (a ≤ d ∧ c ≤ b)) := by
  unfold impl_Meets.f
  split <;> (apply sd; simp only [decide_eq_true_eq, Bool.false_eq_true, false_iff]; omega)
theorem impl_told_eq (s j m l o : Int) (k : Bool) (lo hi x y z : Int) : impl_told.f s j m l o k lo hi x y z = some (decide (okR s j m l o ∧ k = true ∧ okB lo hi)) := by
  simp only [impl_told.f, impl_RulesOk_eq, impl_BoundOk_eq, Option.bind_some, decide_eq_true_eq]
  split
  · rename_i h1
    cases k
    · rw [if_neg (by decide)]
      exact congrArg some (decide_eq_false (fun h => by cases h.2.1)).symm
    · rw [if_pos rfl]
      exact congrArg some (decide_eq_decide.2 ⟨fun h => ⟨h1, rfl, h⟩, fun h => h.2.2⟩)
  · rename_i h1
    exact congrArg some (decide_eq_false (fun h => h1 h.1)).symm
theorem impl_Both_eq (a b c d : Int) : impl_Both.f a b c d = some (if a ≤ d ∧ c ≤ b then (max a c, min b d) else (0, 0)) := by
  simp only [impl_Both.f, impl_Meets_eq, Option.bind_some, decide_eq_true_eq]
  unfold mx mn
  (repeat' split) <;> simp only [Option.some.injEq, Prod.mk.injEq] <;> omega
theorem w64 {a : Int} (h : -9223372036854775808 ≤ a ∧ a ≤ 9223372036854775807) : wrap64 a = a := by unfold wrap64; omega
/-- The least and the most that wheels can have come, in closed form. -/
def lst (s j c : Int) : Int := if 0 < c - j then (1000 * (c - j) + 999 + s) / (1000 + s) else 0
def mst (s j c : Int) : Int := 1000 * (c + j) / (1000 - s)
def stay (x : Int) : Int := max (-100000000) (min x 100000000)
theorem lst_le_iff {s j c x : Int} (hs : 0 ≤ s) (hx : 0 ≤ x) : lst s j c ≤ x ↔ 1000 * (c - j) ≤ 1000 * x + s * x := by
  have hp : 0 ≤ s * x := Int.mul_nonneg hs hx
  unfold lst
  split
  · rw [← Int.lt_add_one_iff, Int.ediv_lt_iff_lt_mul (by omega)]
    have e : (x + 1) * (1000 + s) = 1000 * x + s * x + 1000 + s := by
      rw [Int.add_mul, Int.mul_add, Int.mul_comm x 1000, Int.mul_comm x s]; omega
    rw [e]
    omega
  · constructor
    · intro _; omega
    · intro _; exact hx
theorem lst_nonneg {s j c : Int} (hs : 0 ≤ s) : 0 ≤ lst s j c := by
  unfold lst
  split
  · exact Int.ediv_nonneg (by omega) (by omega)
  · omega
theorem le_mst_iff {s j c x : Int} (hs : s ≤ 500) : x ≤ mst s j c ↔ 1000 * x - s * x ≤ 1000 * (c + j) := by
  unfold mst
  rw [Int.le_ediv_iff_mul_le (by omega)]
  have e : x * (1000 - s) = 1000 * x - s * x := by rw [Int.mul_sub, Int.mul_comm x 1000, Int.mul_comm x s]
  rw [e]
theorem mst_le {s j c : Int} (h0 : 0 ≤ s) (hs : s ≤ 500) (hj : 0 ≤ j ∧ j ≤ 1000) (hc : 0 ≤ c ∧ c ≤ 100000) : mst s j c ≤ 202000 := by
  unfold mst
  rw [← Int.lt_add_one_iff, Int.ediv_lt_iff_lt_mul (by omega)]
  omega
theorem lst_le {s j c : Int} (h0 : 0 ≤ s) (hj : 0 ≤ j) (hc : 0 ≤ c) : lst s j c ≤ c := by
  have hp : 0 ≤ s * c := Int.mul_nonneg h0 hc
  rw [lst_le_iff h0 hc]; omega
theorem le_mst {s j c : Int} (h0 : 0 ≤ s) (hs : s ≤ 500) (hj : 0 ≤ j) (hc : 0 ≤ c) : c ≤ mst s j c := by
  have hp : 0 ≤ s * c := Int.mul_nonneg h0 hc
  rw [le_mst_iff hs]; omega
theorem sx_bd {s x : Int} (h0 : 0 ≤ s) (hs : s ≤ 500) (hx : 0 ≤ x) (hx2 : x ≤ 300000) : 0 ≤ s * x ∧ s * x ≤ 150000000 := by
  refine ⟨Int.mul_nonneg h0 hx, ?_⟩
  have := Int.mul_le_mul hs hx2 hx (by omega)
  omega
abbrev fairP (s j x c : Int) : Prop := 1000 * (x - c) ≤ s * x + 1000 * j ∧ 1000 * (c - x) ≤ s * x + 1000 * j
theorem impl_may_eq {s j m l o x c : Int} (h0 : 0 ≤ s) (hs : s ≤ 500) (hj : 0 ≤ j ∧ j ≤ 1000) (hx : 0 ≤ x) (hx2 : x ≤ 300000) (hc : 0 ≤ c ∧ c ≤ 100000) :
    impl_may.f s j m l o x c = some (decide (fairP s j x c)) := by
  have hp := sx_bd h0 hs hx hx2
  unfold impl_may.f fairP mx
  generalize s * x = p at hp ⊢
  rw [w64 (a := x - c) (by omega), w64 (a := c - x) (by omega), w64 (a := p) (by omega), w64 (a := 1000 * j) (by omega), w64 (a := p + 1000 * j) (by omega), w64 (a := 1000 * (if x - c < c - x then c - x else x - c)) (by split <;> omega)]
  apply sd
  simp only [decide_eq_true_eq]
  split <;> omega
theorem impl_stay_eq (x : Int) : impl_stay.f x = some (stay x) := by
  unfold impl_stay.f stay mx mn
  congr 1
  (repeat' split) <;> omega
theorem impl_came_eq {s j m l o c : Int} (h0 : 0 ≤ s) (hs : s ≤ 500) (hj : 0 ≤ j ∧ j ≤ 1000) (hc : 0 ≤ c ∧ c ≤ 100000) : impl_came.f s j m l o c = some (lst s j c, mst s j c) := by
  have hm := mst_le h0 hs hj hc
  have hm0 := le_mst (s := s) (j := j) (c := c) h0 hs hj.1 hc.1
  have hl := lst_le (s := s) (j := j) (c := c) h0 hj.1 hc.1
  have hl0 := lst_nonneg (s := s) (j := j) (c := c) h0
  unfold impl_came.f
  rw [w64 (a := c - j) (by omega), w64 (a := c + j) (by omega), w64 (a := 1000 * (c - j)) (by omega), w64 (a := 1000 * (c + j)) (by omega), w64 (a := 1000 + s) (by omega), w64 (a := 1000 - s) (by omega), w64 (a := 1000 * (c - j) + 999) (by omega), w64 (a := 1000 * (c - j) + 999 + s) (by omega)]
  have e2 : wrap64 ((1000 * (c + j)).tdiv (1000 - s)) = mst s j c := by
    rw [Int.tdiv_eq_ediv_of_nonneg (by omega)]
    exact w64 (a := mst s j c) (by omega)
  simp only [if_neg (show ¬ 1000 - s = 0 by omega), if_neg (show ¬ 1000 + s = 0 by omega), e2]
  split
  · rename_i hpos
    have e1 : wrap64 ((1000 * (c - j) + 999 + s).tdiv (1000 + s)) = lst s j c := by
      rw [Int.tdiv_eq_ediv_of_nonneg (by omega)]
      have e : (1000 * (c - j) + 999 + s) / (1000 + s) = lst s j c := by unfold lst; rw [if_pos (by omega)]
      rw [e]
      exact w64 (by omega)
    rw [e1]
  · rename_i hneg
    have e : lst s j c = 0 := by unfold lst; rw [if_neg (by omega)]
    rw [e]
/-- What Wheel answers. -/
def wheelV (s j m l o a b c : Int) : Int × Int := if okR s j m l o ∧ okB a b ∧ (0 ≤ c ∧ c ≤ 100000) then (stay (a + lst s j c), stay (b + mst s j c)) else (0, 0)
/-- What Read answers. -/
def readV (s j m l o a b x : Int) : Int × Int :=
  if okR s j m l o ∧ okB a b ∧ (0 ≤ x ∧ x ≤ 100000000) then
    (if a ≤ stay (x + m) ∧ stay (x - m) ≤ b then (max a (stay (x - m)), min b (stay (x + m))) else (min a (stay (x - m)), max b (stay (x + m)))) else (0, 0)
theorem impl_Wheel_eq (s j m l o a b c : Int) {k : Nat} (hk : 1 ≤ k) : impl_Wheel.f k s j m l o a b c = some (wheelV s j m l o a b c) := by
  obtain ⟨k, rfl⟩ : ∃ m, k = m + 1 := ⟨k - 1, by omega⟩
  simp only [impl_Wheel.f, impl_RulesOk_eq, impl_BoundOk_eq, impl_in_eq, impl_stay_eq, Option.bind_some, decide_eq_true_eq, impl_Wheel.j0, wheelV]
  by_cases hr : okR s j m l o
  · rw [if_pos hr]
    by_cases hb : okB a b
    · rw [if_pos hb]
      by_cases h2 : 0 ≤ c ∧ c ≤ 100000
      · rw [if_pos (show okR s j m l o ∧ okB a b ∧ (0 ≤ c ∧ c ≤ 100000) from ⟨hr, hb, h2⟩), decide_eq_true h2]
        have hl := lst_le (s := s) (j := j) (c := c) (by omega) (by omega) h2.1
        have hl0 := lst_nonneg (s := s) (j := j) (c := c) (by omega)
        have hm := mst_le (s := s) (j := j) (c := c) (by omega) (by omega) (by omega) h2
        have hm0 := le_mst (s := s) (j := j) (c := c) (by omega) (by omega) (by omega) h2.1
        rw [if_neg (by decide), impl_came_eq (by omega) (by omega) (by omega) h2]
        simp only [Option.bind_some]
        rw [w64 (a := a + lst s j c) (by omega), w64 (a := b + mst s j c) (by omega)]
      · rw [if_neg (show ¬ (okR s j m l o ∧ okB a b ∧ (0 ≤ c ∧ c ≤ 100000)) from fun h => h2 h.2.2), decide_eq_false h2]
        rfl
    · rw [if_neg hb, if_neg (show ¬ (okR s j m l o ∧ okB a b ∧ (0 ≤ c ∧ c ≤ 100000)) from fun h => hb h.2.1)]
      rfl
  · rw [if_neg hr, if_neg (show ¬ (okR s j m l o ∧ okB a b ∧ (0 ≤ c ∧ c ≤ 100000)) from fun h => hr h.1)]
    rfl
theorem impl_own_eq {s j m l o x : Int} (hm : 0 ≤ m ∧ m ≤ 10000) (hx : 0 ≤ x ∧ x ≤ 100000000) : impl_own.f s j m l o x = some (stay (x - m), stay (x + m)) := by
  simp only [impl_own.f, impl_stay_eq, Option.bind_some]
  rw [w64 (a := x - m) (by omega), w64 (a := x + m) (by omega)]
theorem impl_Read_eq (s j m l o a b x : Int) {k : Nat} (hk : 1 ≤ k) : impl_Read.f k s j m l o a b x = some (readV s j m l o a b x) := by
  obtain ⟨k, rfl⟩ : ∃ m, k = m + 1 := ⟨k - 1, by omega⟩
  simp only [impl_Read.f, impl_RulesOk_eq, impl_BoundOk_eq, impl_in_eq, Option.bind_some, decide_eq_true_eq, impl_Read.j0, readV]
  by_cases hr : okR s j m l o
  · rw [if_pos hr]
    by_cases hb : okB a b
    · rw [if_pos hb]
      by_cases h2 : 0 ≤ x ∧ x ≤ 100000000
      · rw [if_pos (show okR s j m l o ∧ okB a b ∧ (0 ≤ x ∧ x ≤ 100000000) from ⟨hr, hb, h2⟩), decide_eq_true h2]
        rw [if_neg (by decide), impl_own_eq (by omega) h2]
        simp only [Option.bind_some, impl_Meets_eq, impl_Both_eq, decide_eq_true_eq]
        unfold mx mn
        by_cases hmt : a ≤ stay (x + m) ∧ stay (x - m) ≤ b
        · rw [if_pos (show stay (x - m) ≤ b ∧ a ≤ stay (x + m) from ⟨hmt.2, hmt.1⟩), if_pos hmt]
          simp only [Option.bind_some, hmt, and_self, if_true, Option.some.injEq, Prod.mk.injEq]
          omega
        · rw [if_neg (show ¬ (stay (x - m) ≤ b ∧ a ≤ stay (x + m)) from fun h => hmt ⟨h.2, h.1⟩), if_neg hmt]
          simp only [Option.some.injEq, Prod.mk.injEq]
          (repeat' split) <;> omega
      · rw [if_neg (show ¬ (okR s j m l o ∧ okB a b ∧ (0 ≤ x ∧ x ≤ 100000000)) from fun h => h2 h.2.2), decide_eq_false h2]
        rfl
    · rw [if_neg hb, if_neg (show ¬ (okR s j m l o ∧ okB a b ∧ (0 ≤ x ∧ x ≤ 100000000)) from fun h => hb h.2.1)]
      rfl
  · rw [if_neg hr, if_neg (show ¬ (okR s j m l o ∧ okB a b ∧ (0 ≤ x ∧ x ≤ 100000000)) from fun h => hr h.1)]
    rfl
theorem impl_MarksOk_eq (l : List S37) : impl_MarksOk.f l = some (marksB l) := rfl
theorem marksB_false {l : List S37} {i : Nat} (hi : i < l.length) (h : okAt l i = false) : marksB l = false := by
  unfold marksB
  rw [Bool.and_eq_false_iff]
  right
  rw [List.all_eq_false]
  exact ⟨i, List.mem_range.2 hi, by rw [h]; decide⟩
theorem okAt_of {l : List S37} (h : marksB l = true) {i : Nat} (hi : i < l.length) : okAt l i = true := by
  unfold marksB at h
  rw [Bool.and_eq_true, List.all_eq_true] at h
  exact h.2 i (List.mem_range.2 hi)
theorem marks_len {l : List S37} (h : marksB l = true) : l.length ≤ 100 := by
  unfold marksB at h
  rw [Bool.and_eq_true] at h
  exact of_decide_eq_true h.1
theorem okAt_range {l : List S37} {i : Nat} (h : okAt l i = true) : (1 ≤ (rd_T37 l (i : Int)).f0 ∧ (rd_T37 l (i : Int)).f0 ≤ 1000000000) ∧ (0 ≤ (rd_T37 l (i : Int)).f1 ∧ (rd_T37 l (i : Int)).f1 ≤ 100000000) := by
  unfold okAt at h
  simp only [Bool.and_eq_true, decide_eq_true_eq] at h
  exact ⟨h.1.1.1, h.1.2⟩
theorem spec_MarksOk_inner (l : List S37) (hn : l.length ≤ 9000000000000) (i : Nat) (hi : i < l.length) (M : Nat) (R : Bool) (x y : Int) (hR : ∀ k, M ≤ k → spec_MarksOk.l0 k l l (l.length : Int) ((i : Int) + 1) = some R) (e : Nat) :
    ∀ (k j : Nat), j + e = i → hadB l j x = false → M + e + 1 ≤ k → spec_MarksOk.l1 k l (i : Int) (j : Int) l (l.length : Int) (i : Int) x y = some (if hadB l i x = true then false else R) := by
  induction e with
  | zero =>
    intro k j hj hh hk
    obtain ⟨k, rfl⟩ : ∃ m, k = m + 1 := ⟨k - 1, by omega⟩
    obtain rfl : j = i := by omega
    simp only [spec_MarksOk.l1]
    rw [if_neg (by omega), w64 (a := (j : Int) + 1) (by omega), hR k (by omega), hh]
    rfl
  | succ e ih =>
    intro k j hj hh hk
    obtain ⟨k, rfl⟩ : ∃ m, k = m + 1 := ⟨k - 1, by omega⟩
    simp only [spec_MarksOk.l1]
    rw [if_pos (by omega), if_pos (by omega), if_pos (by omega), w64 (a := (j : Int) + 1) (by omega)]
    by_cases h : (rd_T37 l (j : Int)).f0 = x
    · rw [if_pos h]
      have : hadB l i x = true := by
        unfold hadB
        rw [List.any_eq_true]
        exact ⟨j, List.mem_range.2 (by omega), by rw [h]; simp⟩
      rw [this]
      rfl
    · rw [if_neg h]
      refine ih k (j + 1) (by omega) ?_ (by omega)
      rw [hadB_succ, hh]
      simp [h]
theorem spec_MarksOk_loop (l : List S37) (hn : l.length ≤ 9000000000000) (d : Nat) :
    ∀ (k i : Nat), i + d = l.length → d * (l.length + 3) + 1 ≤ k → (∀ j, j < i → okAt l j = true) → spec_MarksOk.l0 k l l (l.length : Int) (i : Int) = some (marksB l) := by
  induction d with
  | zero =>
    intro k i hi hk hok
    obtain ⟨k, rfl⟩ : ∃ m, k = m + 1 := ⟨k - 1, by omega⟩
    simp only [spec_MarksOk.l0]
    rw [if_neg (by omega)]
    unfold marksB
    have : (List.range l.length).all (okAt l) = true := by
      rw [List.all_eq_true]
      intro j hj
      exact hok j (by have := List.mem_range.1 hj; omega)
    rw [this, Bool.and_true]
    exact congrArg some (decide_eq_decide.2 (by omega))
  | succ d ih =>
    intro k i hi hk hok
    rw [Nat.succ_mul] at hk
    generalize hq : d * (l.length + 3) = q at hk ih
    obtain ⟨k, rfl⟩ : ∃ m, k = m + 2 := ⟨k - 2, by omega⟩
    have hil : i < l.length := by omega
    have fin : ∀ (b : Bool), (b = true → okAt l i = false) → (b = false → (decide (1 ≤ (rd_T37 l (i : Int)).f0 ∧ (rd_T37 l (i : Int)).f0 ≤ 1000000000) && decide (0 ≤ (rd_T37 l (i : Int)).f1 ∧ (rd_T37 l (i : Int)).f1 ≤ 100000000) && (decide (i = 0) || decide ((rd_T37 l ((i : Int) - 1)).f1 < (rd_T37 l (i : Int)).f1))) = true) →
        spec_MarksOk.j1 (k + 1) l (i : Int) l (l.length : Int) (i : Int) b (rd_T37 l (i : Int)).f0 (rd_T37 l (i : Int)).f1 = some (marksB l) := by
      intro b h1 h2
      simp only [spec_MarksOk.j1]
      cases b with
      | true => rw [if_pos rfl, marksB_false hil (h1 rfl)]
      | false =>
        rw [if_neg (by decide)]
        have hb := h2 rfl
        by_cases hh : hadB l i (rd_T37 l (i : Int)).f0 = true
        · have hm : marksB l = false := marksB_false hil (by unfold okAt; rw [hh]; simp)
          have := spec_MarksOk_inner l hn i hil k false (rd_T37 l (i : Int)).f0 (rd_T37 l (i : Int)).f1
          clear this
          -- a name that was had: the inner loop ends in false, whatever comes behind
          have ends : ∀ (e k' j : Nat), j + e = i → hadB l j (rd_T37 l (i : Int)).f0 = false → e + 1 ≤ k' → spec_MarksOk.l1 k' l (i : Int) (j : Int) l (l.length : Int) (i : Int) (rd_T37 l (i : Int)).f0 (rd_T37 l (i : Int)).f1 = some false := by
            intro e
            induction e with
            | zero =>
              intro k' j hj hnot _
              obtain rfl : j = i := by omega
              rw [hh] at hnot
              cases hnot
            | succ e ihe =>
              intro k' j hj hnot hk'
              obtain ⟨k', rfl⟩ : ∃ m, k' = m + 1 := ⟨k' - 1, by omega⟩
              simp only [spec_MarksOk.l1]
              rw [if_pos (by omega), if_pos (by omega), if_pos (by omega), w64 (a := (j : Int) + 1) (by omega)]
              by_cases h : (rd_T37 l (j : Int)).f0 = (rd_T37 l (i : Int)).f0
              · rw [if_pos h]
              · rw [if_neg h]
                refine ihe k' (j + 1) (by omega) ?_ (by omega)
                rw [hadB_succ, hnot]
                simp [h]
          rw [hm]
          exact ends i k 0 (by omega) (by simp [hadB]) (by omega)
        · have hh' : hadB l i (rd_T37 l (i : Int)).f0 = false := by simpa using hh
          have hok' : okAt l i = true := by
            unfold okAt
            rw [hh']
            simp only [Bool.and_eq_true] at hb ⊢
            exact ⟨⟨⟨hb.1.1, rfl⟩, hb.1.2⟩, hb.2⟩
          have := spec_MarksOk_inner l hn i hil (q + 1) (marksB l) (rd_T37 l (i : Int)).f0 (rd_T37 l (i : Int)).f1 (fun k' hk' => by
            have := ih k' (i + 1) (by omega) (by omega) (fun j hj => by
              rcases Nat.lt_or_ge j i with h | h
              · exact hok j h
              · obtain rfl : j = i := by omega
                exact hok')
            rwa [show ((i + 1 : Nat) : Int) = (i : Int) + 1 by omega] at this) i k 0 (by omega) (by simp [hadB]) (by omega)
          rw [hh', if_neg (by decide)] at this
          exact this
    simp only [spec_MarksOk.l0, spec_l1in_eq, Option.bind_some]
    rw [if_pos (by omega), if_pos (by omega), if_pos (by omega)]
    by_cases hat : 0 ≤ (rd_T37 l (i : Int)).f1 ∧ (rd_T37 l (i : Int)).f1 ≤ 100000000
    · rw [decide_eq_true hat, if_pos rfl]
      by_cases h0 : (i : Int) > 0
      · rw [if_pos h0, w64 (a := (i : Int) - 1) (by omega), if_pos (by omega), if_pos (by omega)]
        by_cases hp : (rd_T37 l (i : Int)).f1 ≤ (rd_T37 l ((i : Int) - 1)).f1
        · rw [if_pos hp]
          exact fin true (fun _ => by unfold okAt; rw [decide_eq_false (show ¬ i = 0 by omega), decide_eq_false (show ¬ (rd_T37 l ((i : Int) - 1)).f1 < (rd_T37 l (i : Int)).f1 by omega)]; simp) (fun h => by cases h)
        · rw [if_neg hp]
          refine fin _ (fun h => ?_) (fun h => ?_)
          · unfold okAt
            rw [show decide (1 ≤ (rd_T37 l (i : Int)).f0 ∧ (rd_T37 l (i : Int)).f0 ≤ 1000000000) = false by simpa only [Bool.not_eq_true'] using h]
            rfl
          · rw [decide_eq_true (show 1 ≤ (rd_T37 l (i : Int)).f0 ∧ (rd_T37 l (i : Int)).f0 ≤ 1000000000 by simpa using h), decide_eq_true hat, decide_eq_true (show (rd_T37 l ((i : Int) - 1)).f1 < (rd_T37 l (i : Int)).f1 by omega)]
            simp
      · rw [if_neg h0]
        refine fin _ (fun h => ?_) (fun h => ?_)
        · unfold okAt
          rw [show decide (1 ≤ (rd_T37 l (i : Int)).f0 ∧ (rd_T37 l (i : Int)).f0 ≤ 1000000000) = false by simpa only [Bool.not_eq_true'] using h]
          rfl
        · rw [decide_eq_true (show 1 ≤ (rd_T37 l (i : Int)).f0 ∧ (rd_T37 l (i : Int)).f0 ≤ 1000000000 by simpa using h), decide_eq_true hat, decide_eq_true (show i = 0 by omega)]
          rfl
    · rw [decide_eq_false hat, if_neg (by decide)]
      exact fin true (fun _ => by unfold okAt; rw [decide_eq_false hat]; simp) (fun h => by cases h)
theorem spec_MarksOk_eq (l : List S37) (hn : l.length ≤ 9000000000000) {k : Nat} (hk : l.length * (l.length + 3) + 1 ≤ k) : spec_MarksOk.f k l = some (marksB l) := by
  unfold spec_MarksOk.f
  exact spec_MarksOk_loop l hn l.length k 0 (by omega) hk (fun j hj => by omega)
/-- The rounds that suffice for a list of n marks. -/
def Kn (n : Nat) : Nat := n * (n + 3) + 2 * n + 300000
def stateB (l : List S37) (k : Bool) (a b since last odd : Int) : Bool :=
  marksB l && decide (-1 ≤ last ∧ last ≤ (l.length : Int) - 1) && decide (0 ≤ since ∧ since ≤ 1000000000) && decide (0 ≤ odd ∧ odd ≤ 1000000000) && (if k = true then decide (okB a b) else decide (a = 0 ∧ b = 0 ∧ last = -1))
theorem rd_True (xs : List S90) (i : Nat) (h : i < xs.length) : rd_T90 xs (i : Int) = xs[i] := by
  simp [rd_T90, List.getD_eq_getElem?_getD, h]
def tOk (s j : Int) (x : S90) : Bool := decide ((0 ≤ x.f0 ∧ x.f0 ≤ 100000) ∧ (0 ≤ x.f1 ∧ x.f1 ≤ 100000) ∧ fairP s j x.f0 x.f1)
theorem impl_Fair_loop {s j m l o : Int} (h0 : 0 ≤ s) (hs : s ≤ 500) (hj : 0 ≤ j ∧ j ≤ 1000) (ts : List S90) (hn : ts.length ≤ 9000000000000000) (d : Nat) :
    ∀ (k i : Nat), i + d = ts.length → d < k → impl_Fair.l0 k ts (ts.length : Int) (i : Int) s j m l o = some ((ts.drop i).all (tOk s j)) := by
  induction d with
  | zero =>
    intro k i hi hk
    obtain ⟨k, rfl⟩ : ∃ m, k = m + 1 := ⟨k - 1, by omega⟩
    simp only [impl_Fair.l0]
    rw [if_neg (by omega), List.drop_of_length_le (by omega)]
    rfl
  | succ d ih =>
    intro k i hi hk
    obtain ⟨k, rfl⟩ : ∃ m, k = m + 1 := ⟨k - 1, by omega⟩
    simp only [impl_Fair.l0]
    rw [if_pos (by omega), if_pos (by omega), if_pos (by omega), rd_True ts i (by omega), w64 (a := (i : Int) + 1) (by omega), impl_in_eq, impl_in_eq, List.drop_eq_getElem_cons (by omega), List.all_cons]
    have hr := ih k (i + 1) (by omega) (by omega)
    generalize ts[i] = x at *
    simp only [Option.bind_some, decide_eq_true_eq, tOk]
    by_cases h1 : 0 ≤ x.f0 ∧ x.f0 ≤ 100000
    · rw [if_pos h1]
      by_cases h3 : 0 ≤ x.f1 ∧ x.f1 ≤ 100000
      · rw [if_pos h3, impl_may_eq h0 hs hj h1.1 (by omega) h3]
        simp only [Option.bind_some, decide_eq_true_eq]
        by_cases h2 : fairP s j x.f0 x.f1
        · rw [if_pos h2, decide_eq_true (show (0 ≤ x.f0 ∧ x.f0 ≤ 100000) ∧ (0 ≤ x.f1 ∧ x.f1 ≤ 100000) ∧ fairP s j x.f0 x.f1 from ⟨h1, h3, h2⟩), Bool.true_and]
          exact hr
        · rw [if_neg h2, decide_eq_false (show ¬ ((0 ≤ x.f0 ∧ x.f0 ≤ 100000) ∧ (0 ≤ x.f1 ∧ x.f1 ≤ 100000) ∧ fairP s j x.f0 x.f1) from fun h => h2 h.2.2), Bool.false_and]
      · rw [if_neg h3, decide_eq_false (show ¬ ((0 ≤ x.f0 ∧ x.f0 ≤ 100000) ∧ (0 ≤ x.f1 ∧ x.f1 ≤ 100000) ∧ fairP s j x.f0 x.f1) from fun h => h3 h.2.1), Bool.false_and]
    · rw [if_neg h1, decide_eq_false (show ¬ ((0 ≤ x.f0 ∧ x.f0 ≤ 100000) ∧ (0 ≤ x.f1 ∧ x.f1 ≤ 100000) ∧ fairP s j x.f0 x.f1) from fun h => h1 h.1), Bool.false_and]
theorem impl_Fair_eq (s j m l o : Int) (ts : List S90) (hn : ts.length ≤ 9000000000000000) {k : Nat} (hk : ts.length + 1 < k) :
    impl_Fair.f k s j m l o ts = some (decide (okR s j m l o) && decide (ts.length ≤ 2000) && ts.all (tOk s j)) := by
  obtain ⟨k, rfl⟩ : ∃ m, k = m + 1 := ⟨k - 1, by omega⟩
  simp only [impl_Fair.f, impl_RulesOk_eq, Option.bind_some, decide_eq_true_eq, impl_Fair.j0]
  by_cases hr : okR s j m l o
  · rw [if_pos hr, decide_eq_true hr]
    by_cases h2 : ts.length ≤ 2000
    · rw [if_neg (by omega), decide_eq_true h2]
      have := impl_Fair_loop (m := m) (l := l) (o := o) (s := s) (j := j) (by omega) (by omega) (by omega) ts hn ts.length k 0 (by omega) (by omega)
      simpa using this
    · rw [if_pos (by omega), decide_eq_false h2]
      rfl
  · rw [if_neg hr, decide_eq_false hr]
    rfl
theorem wrap_u64 (n : Int) : IntKind.u64.wrap n = n % 18446744073709551616 := by simp [IntKind.wrap, IntKind.bits, IntKind.signed]
theorem and255 {x : Int} (h0 : 0 ≤ x) (h1 : x < 18446744073709551616) : Go.bits .and .u64 x 255 = x % 256 :=
  Go.bits_mask .u64 64 (by decide) (fun n h h' => by rw [wrap_u64]; omega) 8 (by decide) x h0 h1
theorem rd_byte {l : List Int} (hl : ∀ x ∈ l, (Lit.int .u8 x).wf = true) (i : Int) (h0 : 0 ≤ i) (h1 : i < (l.length : Int)) : 0 ≤ rd l i ∧ rd l i ≤ 255 := by
  have hi : i.toNat < l.length := by omega
  have e : rd l i = l[i.toNat] := by simp [rd, List.getD_eq_getElem?_getD, hi]
  have h := hl _ (List.getElem_mem hi)
  rw [← e] at h
  simp [Lit.wf, IntKind.min, IntKind.max, IntKind.signed, IntKind.bits] at h
  omega
theorem next_ok {l : List Int} (hl : ∀ x ∈ l, (Lit.int .u8 x).wf = true) (p s : Int) (h0 : 0 ≤ p) (h1 : p ≤ 1000000000) : ∃ v s', spec_l5Cur_next.f l p s = some (v, p + 1, s') ∧ 0 ≤ v ∧ v ≤ 255 := by
  unfold spec_l5Cur_next.f
  rw [w64 (a := p + 1) (by omega)]
  by_cases h : p < (l.length : Int)
  · rw [if_pos h, if_pos h0]
    have hb := rd_byte hl p h0 h
    rw [w64 (a := rd l p) (by omega)]
    exact ⟨_, _, rfl, hb.1, hb.2⟩
  · rw [if_neg h]
    have hq : 0 ≤ IntKind.u64.wrap ((IntKind.u64.wrap (s * 6364136223846793005)) + 1442695040888963407) / 1099511627776 ∧ IntKind.u64.wrap ((IntKind.u64.wrap (s * 6364136223846793005)) + 1442695040888963407) / 1099511627776 < 18446744073709551616 := by
      rw [wrap_u64 (IntKind.u64.wrap (s * 6364136223846793005) + 1442695040888963407)]
      generalize IntKind.u64.wrap (s * 6364136223846793005) + 1442695040888963407 = q
      omega
    generalize IntKind.u64.wrap ((IntKind.u64.wrap (s * 6364136223846793005)) + 1442695040888963407) / 1099511627776 = q at hq ⊢
    rw [and255 hq.1 hq.2, w64 (a := q % 256) (by omega)]
    exact ⟨_, _, rfl, by omega, by omega⟩
theorem pick_ok {l : List Int} (hl : ∀ x ∈ l, (Lit.int .u8 x).wf = true) (p s : Int) (h0 : 0 ≤ p) (h1 : p ≤ 1000000000) (n : Int) (hn : 1 < n) (hn2 : n ≤ 200) :
    ∃ v p' s', spec_l5Cur_pick.f l p s n = some (v, p', s') ∧ (0 ≤ v ∧ v < n) ∧ p ≤ p' ∧ p' ≤ p + 2 := by
  unfold spec_l5Cur_pick.f
  obtain ⟨v, s', e, hv⟩ := next_ok hl p s h0 h1
  rw [if_neg (by omega), e]
  simp only [Option.bind_some]
  rw [if_neg (by omega), if_neg (by omega), Int.tmod_eq_emod_of_nonneg hv.1]
  exact ⟨_, _, _, rfl, ⟨Int.emod_nonneg _ (by omega), Int.emod_lt_of_pos _ (by omega)⟩, by omega, by omega⟩
theorem wide_ok {l : List Int} (hl : ∀ x ∈ l, (Lit.int .u8 x).wf = true) (p s : Int) (h0 : 0 ≤ p) (h1 : p ≤ 900000000) (n : Int) (hn : 0 < n) :
    ∃ v p' s', spec_l5Cur_wide.f l p s n = some (v, p', s') ∧ (0 ≤ v ∧ v < n) ∧ p ≤ p' ∧ p' ≤ p + 2 := by
  unfold spec_l5Cur_wide.f
  obtain ⟨v, s', e, hv⟩ := next_ok hl p s h0 (by omega)
  obtain ⟨u, s2, e2, hu⟩ := next_ok hl (p + 1) s' (by omega) (by omega)
  rw [e]
  simp only [Option.bind_some]
  rw [e2]
  simp only [Option.bind_some]
  rw [if_neg (by omega), w64 (a := v * 256) (by omega), w64 (a := v * 256 + u) (by omega), Int.tmod_eq_emod_of_nonneg (by omega)]
  exact ⟨_, _, _, rfl, ⟨Int.emod_nonneg _ (by omega), Int.emod_lt_of_pos _ (by omega)⟩, by omega, by omega⟩
theorem rules_ok {l : List Int} (hl : ∀ x ∈ l, (Lit.int .u8 x).wf = true) (p s : Int) (h0 : 0 ≤ p) (h1 : p ≤ 100000000) :
    ∃ sl j m lg lo p' s', spec_l5Cur_rules.f l p s = some (sl, j, m, lg, lo, p', s') ∧ (0 ≤ sl ∧ sl < 80) ∧ (0 ≤ j ∧ j < 6) ∧ (0 ≤ m ∧ m < 30) ∧ (1 ≤ lg ∧ lg ≤ 400) ∧ (0 ≤ lo ∧ lo < 20) ∧ p ≤ p' ∧ p' ≤ p + 12 := by
  unfold spec_l5Cur_rules.f
  obtain ⟨a1, p1, s1, e1, b1, c1⟩ := pick_ok hl p s h0 (by omega) 80 (by omega) (by omega)
  obtain ⟨a2, p2, s2, e2, b2, c2⟩ := pick_ok hl p1 s1 (by omega) (by omega) 6 (by omega) (by omega)
  obtain ⟨a3, p3, s3, e3, b3, c3⟩ := pick_ok hl p2 s2 (by omega) (by omega) 30 (by omega) (by omega)
  obtain ⟨a4, p4, s4, e4, b4, c4⟩ := wide_ok hl p3 s3 (by omega) (by omega) 400 (by omega)
  obtain ⟨a5, p5, s5, e5, b5, c5⟩ := pick_ok hl p4 s4 (by omega) (by omega) 20 (by omega) (by omega)
  obtain ⟨a6, p6, s6, e6, b6, c6⟩ := pick_ok hl p5 s5 (by omega) (by omega) 5 (by omega) (by omega)
  simp only [e1, e2, e3, e4, e5, e6, Option.bind_some]
  rw [w64 (a := 1 + a4) (by omega)]
  split
  · exact ⟨_, _, _, _, _, _, _, rfl, by omega, b2, b3, by omega, b5, by omega, by omega⟩
  · exact ⟨_, _, _, _, _, _, _, rfl, b1, b2, b3, by omega, b5, by omega, by omega⟩
theorem wByte_ok {l : List Int} (hl : ∀ x ∈ l, (Lit.int .u8 x).wf = true) (i : Int) (h0 : 0 ≤ i) : ∃ v, laws_wByte.f l i = some v ∧ 0 ≤ v ∧ v ≤ 255 := by
  unfold laws_wByte.f
  by_cases h : (l.length : Int) = 0
  · rw [if_pos h]
    exact ⟨0, rfl, by omega, by omega⟩
  · rw [if_neg h, Int.tmod_eq_emod_of_nonneg h0]
    have h1 := Int.emod_nonneg i h
    have h2 := Int.emod_lt_of_pos i (show 0 < (l.length : Int) by omega)
    have hb := rd_byte hl _ h1 h2
    rw [if_pos h1, if_pos h2, w64 (by omega)]
    exact ⟨_, rfl, hb⟩
/-- Marks as they are drawn: places rise, names fall. -/
def Drawn (ms : List S37) : Prop := ms.length ≤ 7 ∧ ms.Pairwise (fun x y => x.f1 < y.f1 ∧ y.f0 < x.f0) ∧ ∀ x ∈ ms, (1 ≤ x.f0 ∧ x.f0 ≤ 1000) ∧ (0 ≤ x.f1 ∧ x.f1 ≤ 6000)
theorem marks_loop {l : List Int} (hl : ∀ x ∈ l, (Lit.int .u8 x).wf = true) (d : Nat) : ∀ (k : Nat) (acc : List S37) (at_ c p s : Int), c = d → d < k → (acc.length : Int) + c ≤ 7 → 0 ≤ at_ → at_ ≤ 300 + 700 * (acc.length : Int) →
    0 ≤ p → p ≤ 10000000 + 4 * (acc.length : Int) → acc.Pairwise (fun x y => x.f1 < y.f1 ∧ y.f0 < x.f0) → (∀ x ∈ acc, (1 ≤ x.f0 ∧ x.f0 ≤ 1000) ∧ (0 ≤ x.f1 ∧ x.f1 ≤ 6000) ∧ x.f1 < at_ ∧ 7 * c + 4 < x.f0) →
    ∃ ms p' s', spec_l5Cur_marks.l0 k acc at_ c l p s = some (ms, p', s') ∧ Drawn ms ∧ 0 ≤ p' ∧ p' ≤ 10000100 := by
  induction d with
  | zero =>
    intro k acc at_ c p s hc hk hlen ha ha2 hp hp2 hpw hall
    obtain ⟨k, rfl⟩ : ∃ m, k = m + 1 := ⟨k - 1, by omega⟩
    simp only [spec_l5Cur_marks.l0]
    rw [if_neg (by omega)]
    exact ⟨_, _, _, rfl, ⟨by omega, hpw, fun x hx => ⟨(hall x hx).1, (hall x hx).2.1⟩⟩, by omega, by omega⟩
  | succ d ih =>
    intro k acc at_ c p s hc hk hlen ha ha2 hp hp2 hpw hall
    obtain ⟨k, rfl⟩ : ∃ m, k = m + 1 := ⟨k - 1, by omega⟩
    simp only [spec_l5Cur_marks.l0]
    obtain ⟨a1, p1, s1, e1, b1, c1⟩ := pick_ok hl p s hp (by omega) 3 (by omega) (by omega)
    obtain ⟨a2, p2, s2, e2, b2, c2⟩ := wide_ok hl p1 s1 (by omega) (by omega) 600 (by omega)
    rw [if_pos (by omega), e1]
    simp only [Option.bind_some]
    rw [if_pos (by omega), e2]
    simp only [Option.bind_some]
    rw [w64 (a := 7 * c) (by omega), w64 (a := 1 + 7 * c) (by omega), w64 (a := 1 + 7 * c + a1) (by omega), w64 (a := 1 + a2) (by omega), w64 (a := at_ + (1 + a2)) (by omega), w64 (a := c - 1) (by omega)]
    refine ih k _ _ _ _ _ (by omega) (by omega) (by simp; omega) (by omega) (by simp; omega) (by omega) (by simp; omega) ?_ ?_
    · rw [List.pairwise_append]
      refine ⟨hpw, by simp, fun x hx y hy => ?_⟩
      rw [List.mem_singleton] at hy
      subst hy
      have := hall x hx
      exact ⟨this.2.2.1, by show 1 + 7 * c + a1 < x.f0; omega⟩
    · intro x hx
      rcases List.mem_append.1 hx with hx | hx
      · have := hall x hx
        exact ⟨this.1, this.2.1, by omega, by omega⟩
      · rw [List.mem_singleton] at hx
        subst hx
        refine ⟨⟨?_, ?_⟩, ⟨?_, ?_⟩, ?_, ?_⟩ <;> dsimp only <;> omega
theorem marks_ok {l : List Int} (hl : ∀ x ∈ l, (Lit.int .u8 x).wf = true) (p s : Int) (h0 : 0 ≤ p) (h1 : p ≤ 1000000) {k : Nat} (hk : 8 ≤ k) :
    ∃ ms p' s', spec_l5Cur_marks.f k l p s = some (ms, p', s') ∧ Drawn ms ∧ 0 ≤ p' ∧ p' ≤ 10000100 := by
  unfold spec_l5Cur_marks.f
  obtain ⟨a1, p1, s1, e1, b1, c1⟩ := wide_ok hl p s h0 (by omega) 300 (by omega)
  obtain ⟨a2, p2, s2, e2, b2, c2⟩ := pick_ok hl p1 s1 (by omega) (by omega) 8 (by omega) (by omega)
  simp only [e1, e2, Option.bind_some]
  exact marks_loop hl a2.toNat k [] a1 a2 p2 s2 (by omega) (by omega) (by simp; omega) (by omega) (by simp; omega) (by omega) (by simp; omega) (by simp) (by simp)
theorem drawn_rd {ms : List S37} (h : Drawn ms) {i : Nat} (hi : i < ms.length) : (1 ≤ (rd_T37 ms (i : Int)).f0 ∧ (rd_T37 ms (i : Int)).f0 ≤ 1000) ∧ (0 ≤ (rd_T37 ms (i : Int)).f1 ∧ (rd_T37 ms (i : Int)).f1 ≤ 6000) := by
  have e : rd_T37 ms (i : Int) = ms[i] := by simp [rd_T37, List.getD_eq_getElem?_getD, hi]
  rw [e]
  exact h.2.2 _ (List.getElem_mem hi)
theorem drawn_lt {ms : List S37} (h : Drawn ms) {i j : Nat} (hij : i < j) (hj : j < ms.length) : (rd_T37 ms (i : Int)).f1 < (rd_T37 ms (j : Int)).f1 ∧ (rd_T37 ms (j : Int)).f0 < (rd_T37 ms (i : Int)).f0 := by
  have ei : rd_T37 ms (i : Int) = ms[i]'(by omega) := by simp [rd_T37, List.getD_eq_getElem?_getD, show i < ms.length by omega]
  have ej : rd_T37 ms (j : Int) = ms[j] := by simp [rd_T37, List.getD_eq_getElem?_getD, hj]
  rw [ei, ej]
  exact List.pairwise_iff_getElem.1 h.2.1 i j (by omega) hj hij
theorem drawn_marks {ms : List S37} (h : Drawn ms) : marksB ms = true := by
  have hlen := h.1
  unfold marksB
  rw [decide_eq_true (by omega), Bool.true_and, List.all_eq_true]
  intro i hi
  rw [List.mem_range] at hi
  have hr := drawn_rd h hi
  unfold okAt
  have hh : hadB ms i (rd_T37 ms (i : Int)).f0 = false := by
    unfold hadB
    rw [List.any_eq_false]
    intro j hj
    rw [List.mem_range] at hj
    have := (drawn_lt h hj hi).2
    simp only [beq_iff_eq]
    omega
  rw [hh, decide_eq_true (show 1 ≤ (rd_T37 ms (i : Int)).f0 ∧ (rd_T37 ms (i : Int)).f0 ≤ 1000000000 by omega), decide_eq_true (show 0 ≤ (rd_T37 ms (i : Int)).f1 ∧ (rd_T37 ms (i : Int)).f1 ≤ 100000000 by omega)]
  by_cases h0 : i = 0
  · rw [decide_eq_true h0]
    rfl
  · have hp := (drawn_lt h (i := i - 1) (j := i) (by omega) hi).1
    rw [show ((i - 1 : Nat) : Int) = (i : Int) - 1 by omega] at hp
    rw [decide_eq_true hp]
    simp
theorem ticks_loop {l : List Int} (hl : ∀ x ∈ l, (Lit.int .u8 x).wf = true) {sl j m lg lo : Int} (hs : 0 ≤ sl ∧ sl < 80) (hj : 0 ≤ j ∧ j < 6) (d : Nat) : ∀ (k : Nat) (acc : List S90) (c p s : Int), c = d → 2 * d < k → (acc.length : Int) + c ≤ 19 →
    0 ≤ p → p ≤ 20000000 + 6 * (acc.length : Int) → (∀ x ∈ acc, tOk sl j x = true ∧ 0 ≤ x.f0 ∧ x.f0 ≤ 200) →
    ∃ ts p' s', spec_l5Cur_ticks.l0 k acc c l p s sl j m lg lo = some (ts, p', s') ∧ ts.length ≤ 19 ∧ (∀ x ∈ ts, tOk sl j x = true ∧ 0 ≤ x.f0 ∧ x.f0 ≤ 200) ∧ 0 ≤ p' ∧ p' ≤ 20001000 := by
  induction d with
  | zero =>
    intro k acc c p s hc hk hlen hp hp2 hall
    obtain ⟨k, rfl⟩ : ∃ m, k = m + 1 := ⟨k - 1, by omega⟩
    simp only [spec_l5Cur_ticks.l0]
    rw [if_neg (by omega)]
    exact ⟨_, _, _, rfl, by omega, hall, by omega, by omega⟩
  | succ d ih =>
    intro k acc c p s hc hk hlen hp hp2 hall
    obtain ⟨k, rfl⟩ : ∃ m, k = m + 2 := ⟨k - 2, by omega⟩
    obtain ⟨a1, p1, s1, e1, b1, c1⟩ := wide_ok hl p s hp (by omega) 160 (by omega)
    obtain ⟨a2, p2, s2, e2, b2, c2⟩ := pick_ok hl p1 s1 (by omega) (by omega) 4 (by omega) (by omega)
    have hq : 0 ≤ a1 * a2 ∧ a1 * a2 ≤ 480 := ⟨Int.mul_nonneg b1.1 b2.1, by have := Int.mul_le_mul (show a1 ≤ 160 by omega) (show a2 ≤ 3 by omega) b2.1 (by omega); omega⟩
    simp only [spec_l5Cur_ticks.l0]
    rw [if_pos (by omega), e1]
    simp only [Option.bind_some]
    rw [e2]
    simp only [Option.bind_some]
    generalize a1 * a2 = q at hq
    rw [w64 (a := q) (by omega), Int.tdiv_eq_ediv_of_nonneg hq.1, w64 (a := q / 3) (by omega)]
    have hf : 0 ≤ q / 3 ∧ q / 3 ≤ 160 := by omega
    generalize q / 3 = far at hf
    have hp3 : 0 ≤ sl * far ∧ sl * far ≤ 12800 := ⟨Int.mul_nonneg hs.1 hf.1, by have := Int.mul_le_mul (show sl ≤ 80 by omega) hf.2 hf.1 (by omega); omega⟩
    generalize hz : sl * far = z at hp3
    rw [w64 (a := z) (by omega), w64 (a := 1000 * j) (by omega), w64 (a := z + 1000 * j) (by omega), Int.tdiv_eq_ediv_of_nonneg (show 0 ≤ z + 1000 * j by omega), w64 (a := (z + 1000 * j) / 1000) (by omega)]
    have ha : 0 ≤ (z + 1000 * j) / 1000 ∧ (z + 1000 * j) / 1000 ≤ 20 ∧ 1000 * ((z + 1000 * j) / 1000) ≤ z + 1000 * j := by omega
    generalize (z + 1000 * j) / 1000 = a at ha
    rw [if_neg (by omega), decide_eq_false (by omega)]
    obtain ⟨a3, p3, s3, e3, b3, c3⟩ := wide_ok hl p2 s2 (by omega) (by omega) (2 * a + 1) (by omega)
    simp only [spec_l5Cur_ticks.j1, Bool.false_eq_true, if_false]
    rw [w64 (a := 2 * a) (by omega), w64 (a := 2 * a + 1) (by omega), e3]
    simp only [Option.bind_some]
    rw [w64 (a := far - a) (by omega), w64 (a := far - a + a3) (by omega), w64 (a := c - 1) (by omega)]
    have ok : ∀ n : Int, (n = 0 ∧ far - a + a3 < 0 ∨ n = far - a + a3 ∧ 0 ≤ n) → tOk sl j ⟨far, n⟩ = true := by
      intro n hn
      unfold tOk fairP
      rw [decide_eq_true_eq]
      dsimp only
      rw [hz]
      omega
    have hall' : ∀ n : Int, (n = 0 ∧ far - a + a3 < 0 ∨ n = far - a + a3 ∧ 0 ≤ n) → ∀ x ∈ acc ++ [(⟨far, n⟩ : S90)], tOk sl j x = true ∧ 0 ≤ x.f0 ∧ x.f0 ≤ 200 := by
      intro n hn x hx
      rcases List.mem_append.1 hx with hx | hx
      · exact hall x hx
      · rw [List.mem_singleton] at hx
        subst hx
        exact ⟨ok n hn, hf.1, by dsimp only; omega⟩
    by_cases hneg : far - a + a3 < 0
    · rw [if_pos hneg, if_pos (by omega)]
      exact ih k _ _ _ _ (by omega) (by omega) (by simp; omega) (by omega) (by simp; omega) (hall' 0 (.inl ⟨rfl, hneg⟩))
    · rw [if_neg hneg, if_pos (by omega)]
      exact ih k _ _ _ _ (by omega) (by omega) (by simp; omega) (by omega) (by simp; omega) (hall' _ (.inr ⟨rfl, by omega⟩))
theorem reads_loop {l : List Int} (hl : ∀ x ∈ l, (Lit.int .u8 x).wf = true) (ms : List S37) (at_ : Int) (ts : List S90) (hts : ts.length ≤ 19) (sl j m lg lo : Int) (d : Nat) : ∀ (k i : Nat) (acc : List Int) (p s : Int), i + d = ts.length → d < k → acc.length = i →
    0 ≤ p → p ≤ 30000000 + 2 * (i : Int) → ∃ rs, spec_Trips.l0 k ms at_ ts acc (ts.length : Int) (i : Int) l p s sl j m lg lo = some (sl, j, m, lg, lo, ms, at_, ts, rs) ∧ rs.length = ts.length := by
  induction d with
  | zero =>
    intro k i acc p s hi hk ha hp hp2
    obtain ⟨k, rfl⟩ : ∃ m, k = m + 1 := ⟨k - 1, by omega⟩
    simp only [spec_Trips.l0]
    rw [if_neg (by omega)]
    exact ⟨acc, rfl, by omega⟩
  | succ d ih =>
    intro k i acc p s hi hk ha hp hp2
    obtain ⟨k, rfl⟩ : ∃ m, k = m + 1 := ⟨k - 1, by omega⟩
    obtain ⟨a1, p1, s1, e1, b1, c1⟩ := pick_ok hl p s hp (by omega) 2 (by omega) (by omega)
    simp only [spec_Trips.l0]
    rw [if_pos (by omega), e1]
    simp only [Option.bind_some]
    rw [if_pos (by omega), w64 (a := (i : Int) + 1) (by omega)]
    have := ih k (i + 1) (acc ++ [a1]) p1 s1 (by omega) (by omega) (by simp; omega) (by omega) (by omega)
    rwa [show ((i + 1 : Nat) : Int) = (i : Int) + 1 by omega] at this
theorem trips_ok {l : List Int} (hl : ∀ x ∈ l, (Lit.int .u8 x).wf = true) {k : Nat} (hk : 100 ≤ k) :
    ∃ sl j m lg lo ms at_ ts rs, spec_Trips.f k l = some (sl, j, m, lg, lo, ms, at_, ts, rs) ∧ ((0 ≤ sl ∧ sl < 80) ∧ (0 ≤ j ∧ j < 6) ∧ (0 ≤ m ∧ m < 30) ∧ (1 ≤ lg ∧ lg ≤ 400) ∧ (0 ≤ lo ∧ lo < 20)) ∧ Drawn ms ∧ (0 ≤ at_ ∧ at_ < 900) ∧ ts.length ≤ 19 ∧ (∀ x ∈ ts, tOk sl j x = true ∧ 0 ≤ x.f0 ∧ x.f0 ≤ 200) ∧ rs.length = ts.length := by
  unfold spec_Trips.f
  obtain ⟨sl, j, m, lg, lo, p1, s1, e1, r1, r2, r3, r4, r5, q1, q2⟩ := rules_ok hl 0 0 (by omega) (by omega)
  obtain ⟨ms, p2, s2, e2, hm, q3, q4⟩ := marks_ok hl p1 s1 (by omega) (by omega) (show 8 ≤ k by omega)
  obtain ⟨a, p3, s3, e3, b3, c3⟩ := wide_ok hl p2 s2 (by omega) (by omega) 900 (by omega)
  obtain ⟨n, p4, s4, e4, b4, c4⟩ := pick_ok hl p3 s3 (by omega) (by omega) 20 (by omega) (by omega)
  obtain ⟨ts, p5, s5, e5, t1, t2, t3, t4⟩ := ticks_loop (m := m) (lg := lg) (lo := lo) hl r1 r2 n.toNat k [] n p4 s4 (by omega) (by omega) (by simp; omega) (by omega) (by simp; omega) (by simp)
  obtain ⟨rs, e6, hrs⟩ := reads_loop hl ms a ts t1 sl j m lg lo ts.length k 0 [] p5 s5 (by omega) (by omega) rfl (by omega) (by omega)
  simp only [spec_l5Cur_ticks.f, e1, e2, e3, e4, e5, Option.bind_some]
  exact ⟨_, _, _, _, _, _, _, _, _, e6, ⟨r1, r2, r3, r4, r5⟩, hm, b3, t1, t2, hrs⟩
/-- The marks from which the front is near. -/
def near (m at_ : Int) (x : S37) : Bool := decide (-m ≤ x.f1 - at_ ∧ x.f1 - at_ ≤ m)
def seen (m at_ : Int) (ms : List S37) : List S34 := (ms.filter (near m at_)).map fun x => ⟨2, x.f0⟩
theorem seen_cons (m at_ : Int) (x : S37) (r : List S37) : seen m at_ (x :: r) = (if near m at_ x = true then [⟨2, x.f0⟩] else []) ++ seen m at_ r := by
  unfold seen
  rw [List.filter_cons]
  split <;> rfl
theorem seen_len (m at_ : Int) (ms : List S37) : (seen m at_ ms).length ≤ ms.length := by
  unfold seen
  rw [List.length_map]
  exact List.length_filter_le ..
abbrev tickR (t : S90) : Prop := (0 ≤ t.f0 ∧ t.f0 ≤ 100000) ∧ (0 ≤ t.f1 ∧ t.f1 ≤ 100000)
/-- What Felt tells, from a place on. -/
def feltGo (m : Int) (ms : List S37) : Int → List S34 → List S90 → List Int → List S34
  | at_, out, t :: ts, r :: rs => if tickR t then (if at_ + t.f0 > 100000000 then [] else feltGo m ms (at_ + t.f0) (out ++ [⟨1, t.f1⟩] ++ (if r = 1 then seen m (at_ + t.f0) ms else [])) ts rs) else []
  | _, out, _, _ => if (out.length : Int) > 2000 then [] else out
def feltV (s j m l o : Int) (ms : List S37) (at_ : Int) (ts : List S90) (rs : List Int) : List S34 :=
  if okR s j m l o ∧ marksB ms = true ∧ (0 ≤ at_ ∧ at_ ≤ 100000000) ∧ ts.length ≤ 2000 ∧ rs.length = ts.length then feltGo m ms at_ [] ts rs else []
theorem feltGo_nil (m : Int) (ms : List S37) (at_ : Int) (out : List S34) (rs : List Int) : feltGo m ms at_ out [] rs = if (out.length : Int) > 2000 then [] else out := by
  cases rs <;> rfl
theorem rdM (xs : List S37) (i : Nat) (h : i < xs.length) : rd_T37 xs (i : Int) = xs[i] := by
  simp [rd_T37, List.getD_eq_getElem?_getD, h]
theorem rdT (xs : List S90) (i : Nat) (h : i < xs.length) : rd_T90 xs (i : Int) = xs[i] := by
  simp [rd_T90, List.getD_eq_getElem?_getD, h]
theorem rdI (xs : List Int) (i : Nat) (h : i < xs.length) : rd xs (i : Int) = xs[i] := by
  simp [rd, List.getD_eq_getElem?_getD, h]
theorem impl_Felt_inner {s j m l o : Int} (hm : 0 ≤ m ∧ m ≤ 10000) (ms : List S37) (hms : marksB ms = true) (ts : List S90) (rs : List Int) (at_ : Int) (ha : 0 ≤ at_ ∧ at_ ≤ 100000000) (i : Nat) (hi : i ≤ 100000) (M : Nat) (R : List S34) (e : Nat) :
    ∀ (k j' : Nat) (out : List S34), j' + e = ms.length → M + e + 1 ≤ k → out.length + e ≤ 1000000000 → (∀ k', M ≤ k' → impl_Felt.l0 k' ms at_ rs (out ++ seen m at_ (ms.drop j')) ts (ts.length : Int) ((i : Int) + 1) s j m l o = some R) →
      impl_Felt.l1 k ms at_ rs out ts (ts.length : Int) (i : Int) ms (ms.length : Int) (j' : Int) s j m l o = some R := by
  induction e with
  | zero =>
    intro k j' out hj hk ho hR
    obtain ⟨k, rfl⟩ : ∃ q, k = q + 1 := ⟨k - 1, by omega⟩
    simp only [impl_Felt.l1]
    rw [if_neg (by omega), w64 (a := (i : Int) + 1) (by omega)]
    have := hR k (by omega)
    rw [List.drop_of_length_le (by omega)] at this
    simpa [seen] using this
  | succ e ih =>
    intro k j' out hj hk ho hR
    obtain ⟨k, rfl⟩ : ∃ q, k = q + 1 := ⟨k - 1, by omega⟩
    have hj' : j' < ms.length := by omega
    have hml := marks_len hms
    have hr := (okAt_range (okAt_of hms hj')).2
    rw [rdM ms j' hj'] at hr
    simp only [impl_Felt.l1]
    rw [if_pos (by omega), if_pos (by omega), if_pos (by omega), rdM ms j' hj', w64 (a := ms[j'].f1 - at_) (by omega), w64 (a := -m) (by omega), w64 (a := (j' : Int) + 1) (by omega), impl_in_eq]
    rw [List.drop_eq_getElem_cons hj'] at hR
    simp only [seen_cons] at hR
    simp only [Option.bind_some]
    by_cases h : near m at_ ms[j'] = true
    · have h' : -m ≤ ms[j'].f1 - at_ ∧ ms[j'].f1 - at_ ≤ m := of_decide_eq_true h
      rw [decide_eq_true h', if_pos rfl, if_pos (by omega)]
      simp only [h, if_true] at hR
      exact ih k (j' + 1) _ (by omega) (by omega) (by simp; omega) (fun k' hk' => by rw [List.append_assoc]; exact hR k' hk')
    · have h' : ¬ (-m ≤ ms[j'].f1 - at_ ∧ ms[j'].f1 - at_ ≤ m) := fun q => h (decide_eq_true q)
      rw [decide_eq_false h', if_neg (by decide)]
      simp only [h, if_false, List.nil_append, Bool.false_eq_true] at hR
      exact ih k (j' + 1) _ (by omega) (by omega) (by omega) hR
theorem impl_Felt_loop {s j m l o : Int} (hm : 0 ≤ m ∧ m ≤ 10000) (ms : List S37) (hms : marksB ms = true) (ts : List S90) (hts : ts.length ≤ 2000) (rs : List Int) (hrs : rs.length = ts.length) (d : Nat) :
    ∀ (k i : Nat) (at_ : Int) (out : List S34), i + d = ts.length → d * (ms.length + 3) + 1 ≤ k → (0 ≤ at_ ∧ at_ ≤ 100000000) → out.length ≤ i * (ms.length + 1) →
      impl_Felt.l0 k ms at_ rs out ts (ts.length : Int) (i : Int) s j m l o = some (feltGo m ms at_ out (ts.drop i) (rs.drop i)) := by
  have hml := marks_len hms
  induction d with
  | zero =>
    intro k i at_ out hi hk ha ho
    obtain ⟨k, rfl⟩ : ∃ q, k = q + 1 := ⟨k - 1, by omega⟩
    simp only [impl_Felt.l0]
    rw [if_neg (by omega), List.drop_of_length_le (show ts.length ≤ i by omega), feltGo_nil]
    split <;> rfl
  | succ d ih =>
    intro k i at_ out hi hk ha ho
    rw [Nat.succ_mul] at hk
    generalize hq : d * (ms.length + 3) = q at hk ih
    obtain ⟨k, rfl⟩ : ∃ q, k = q + 2 := ⟨k - 2, by omega⟩
    have hit : i < ts.length := by omega
    have hol : out.length ≤ 1000000 := Nat.le_trans ho (Nat.le_trans (Nat.mul_le_mul (show i ≤ 2000 by omega) (show ms.length + 1 ≤ 101 by omega)) (by omega))
    simp only [impl_Felt.l0, impl_Felt.j2, impl_in_eq, Option.bind_some]
    rw [if_pos (by omega), if_pos (by omega), if_pos (by omega), rdT ts i hit, List.drop_eq_getElem_cons hit, List.drop_eq_getElem_cons (show i < rs.length by omega)]
    simp only [feltGo]
    generalize ts[i] = t
    by_cases h1 : 0 ≤ t.f0 ∧ t.f0 ≤ 100000
    · rw [decide_eq_true h1, if_pos rfl]
      by_cases h2 : 0 ≤ t.f1 ∧ t.f1 ≤ 100000
      · rw [decide_eq_true h2, if_pos (show tickR t from ⟨h1, h2⟩), if_neg (by decide), if_pos (by omega), w64 (a := at_ + t.f0) (by omega)]
        by_cases h3 : at_ + t.f0 > 100000000
        · rw [if_pos h3, if_pos h3]
        · rw [if_neg h3, if_neg h3, if_pos (by omega), if_pos (by omega), rdI rs i (by omega), w64 (a := (i : Int) + 1) (by omega)]
          have hlen2 : ∀ z : List S34, z.length ≤ ms.length → (out ++ [(⟨1, t.f1⟩ : S34)] ++ z).length ≤ (i + 1) * (ms.length + 1) := by
            intro z hz
            rw [Nat.succ_mul, List.length_append, List.length_append]
            simp only [List.length_singleton]
            omega
          by_cases h4 : rs[i] = 1
          · rw [if_pos h4, if_pos h4]
            have := impl_Felt_inner (s := s) (j := j) (l := l) (o := o) hm ms hms ts rs (at_ + t.f0) (by omega) i (by omega) (q + 1) (feltGo m ms (at_ + t.f0) (out ++ [⟨1, t.f1⟩] ++ seen m (at_ + t.f0) ms) (ts.drop (i + 1)) (rs.drop (i + 1))) ms.length k 0 (out ++ [⟨1, t.f1⟩]) (by omega) (by omega) (by simp; omega) (fun k' hk' => by
              rw [List.drop_zero]
              have := ih k' (i + 1) (at_ + t.f0) (out ++ [⟨1, t.f1⟩] ++ seen m (at_ + t.f0) ms) (by omega) (by omega) (by omega) (hlen2 _ (seen_len ..))
              rwa [show ((i + 1 : Nat) : Int) = (i : Int) + 1 by omega] at this)
            exact this
          · rw [if_neg h4, if_neg h4, List.append_nil]
            have := ih k (i + 1) (at_ + t.f0) (out ++ [⟨1, t.f1⟩]) (by omega) (by omega) (by omega) (by have := hlen2 [] (by simp); simpa using this)
            rwa [show ((i + 1 : Nat) : Int) = (i : Int) + 1 by omega] at this
      · rw [decide_eq_false h2, if_neg (show ¬ tickR t from fun h => h2 h.2)]
        rfl
    · rw [decide_eq_false h1, if_neg (show ¬ tickR t from fun h => h1 h.1), if_neg (by decide), if_pos trivial]
theorem impl_Felt_eq (s j m l o : Int) (ms : List S37) (at_ : Int) (ts : List S90) (rs : List Int) (hn : rs.length ≤ 9000000000000) (hn2 : ts.length ≤ 9000000000000) {k : Nat} (hk : 210000 ≤ k) :
    impl_Felt.f k s j m l o ms at_ ts rs = some (feltV s j m l o ms at_ ts rs) := by
  obtain ⟨k, rfl⟩ : ∃ q, k = q + 1 := ⟨k - 1, by omega⟩
  simp only [impl_Felt.f, impl_RulesOk_eq, impl_MarksOk_eq, impl_in_eq, Option.bind_some, decide_eq_true_eq, impl_Felt.j0, if_true, feltV]
  by_cases hr : okR s j m l o
  · rw [if_pos hr]
    by_cases hm : marksB ms = true
    · rw [if_pos hm]
      by_cases ha : 0 ≤ at_ ∧ at_ ≤ 100000000
      · rw [if_pos ha]
        by_cases ht : ts.length ≤ 2000
        · rw [if_neg (show ¬ (ts.length : Int) > 2000 by omega)]
          by_cases hl : rs.length = ts.length
          · rw [if_pos (show okR s j m l o ∧ marksB ms = true ∧ (0 ≤ at_ ∧ at_ ≤ 100000000) ∧ ts.length ≤ 2000 ∧ rs.length = ts.length from ⟨hr, hm, ha, ht, hl⟩), hl]
            simp only [bne_self_eq_false, Bool.false_eq_true, if_false]
            have hml := marks_len hm
            have hb : ts.length * (ms.length + 3) ≤ 2000 * 103 := Nat.mul_le_mul ht (by omega)
            have := impl_Felt_loop (s := s) (j := j) (l := l) (o := o) (m := m) (by omega) ms hm ts ht rs hl ts.length k 0 at_ [] (by omega) (by omega) ha (by simp)
            simpa using this
          · rw [if_neg (show ¬ (okR s j m l o ∧ marksB ms = true ∧ (0 ≤ at_ ∧ at_ ≤ 100000000) ∧ ts.length ≤ 2000 ∧ rs.length = ts.length) from fun h => hl h.2.2.2.2), if_pos]
            rw [bne_iff_ne]
            omega
        · rw [if_pos (show (ts.length : Int) > 2000 by omega), if_neg (show ¬ (okR s j m l o ∧ marksB ms = true ∧ (0 ≤ at_ ∧ at_ ≤ 100000000) ∧ ts.length ≤ 2000 ∧ rs.length = ts.length) from fun h => ht h.2.2.2.1)]
      · rw [if_neg ha, if_neg (show ¬ (okR s j m l o ∧ marksB ms = true ∧ (0 ≤ at_ ∧ at_ ≤ 100000000) ∧ ts.length ≤ 2000 ∧ rs.length = ts.length) from fun h => ha h.2.2.1)]
    · rw [if_neg hm, if_neg (show ¬ (okR s j m l o ∧ marksB ms = true ∧ (0 ≤ at_ ∧ at_ ≤ 100000000) ∧ ts.length ≤ 2000 ∧ rs.length = ts.length) from fun h => hm h.2.1)]
  · rw [if_neg hr, if_neg (show ¬ (okR s j m l o ∧ marksB ms = true ∧ (0 ≤ at_ ∧ at_ ≤ 100000000) ∧ ts.length ≤ 2000 ∧ rs.length = ts.length) from fun h => hr h.1)]
theorem l4true_eq (a b : Int) : spec_l4true.f a b = some (decide ((0 ≤ a ∧ a ≤ 100000) ∧ (0 ≤ b ∧ b ≤ 100000))) := by
  simp only [spec_l4true.f, spec_l1in_eq, Option.bind_some, decide_eq_true_eq]
  split <;> (apply sd; simp only [decide_eq_true_eq, Bool.false_eq_true, false_iff]; omega)
theorem spec_Felt_inner {s j m l o : Int} (hm : 0 ≤ m ∧ m ≤ 10000) (ms : List S37) (hms : marksB ms = true) (ts : List S90) (rs : List Int) (at_ : Int) (ha : 0 ≤ at_ ∧ at_ ≤ 100000000) (i : Nat) (hi : i ≤ 100000) (hir : i < rs.length) (M : Nat) (R : List S34) (e : Nat) :
    ∀ (k j' : Nat) (out : List S34), j' + e = ms.length → M + e + 1 ≤ k → out.length + e ≤ 1000000000 → (∀ k', M ≤ k' → spec_Felt.l0 k' ms at_ rs (out ++ (if rs[i] = 1 then seen m at_ (ms.drop j') else [])) ts (ts.length : Int) ((i : Int) + 1) s j m l o = some R) →
      spec_Felt.l1 k ms at_ rs out (i : Int) ts (ts.length : Int) (i : Int) ms (ms.length : Int) (j' : Int) s j m l o = some R := by
  induction e with
  | zero =>
    intro k j' out hj hk ho hR
    obtain ⟨k, rfl⟩ : ∃ q, k = q + 1 := ⟨k - 1, by omega⟩
    simp only [spec_Felt.l1]
    rw [if_neg (by omega), w64 (a := (i : Int) + 1) (by omega)]
    have := hR k (by omega)
    rw [List.drop_of_length_le (by omega)] at this
    simpa [seen] using this
  | succ e ih =>
    intro k j' out hj hk ho hR
    obtain ⟨k, rfl⟩ : ∃ q, k = q + 1 := ⟨k - 1, by omega⟩
    have hj' : j' < ms.length := by omega
    have hml := marks_len hms
    have hr := (okAt_range (okAt_of hms hj')).2
    rw [rdM ms j' hj'] at hr
    simp only [spec_Felt.l1]
    rw [if_pos (by omega), if_pos (by omega), if_pos (by omega), if_pos (by omega), if_pos (by omega), rdM ms j' hj', rdI rs i hir, w64 (a := ms[j'].f1 - m) (by omega), w64 (a := ms[j'].f1 + m) (by omega), w64 (a := (j' : Int) + 1) (by omega), spec_l1in_eq]
    rw [List.drop_eq_getElem_cons hj'] at hR
    simp only [seen_cons] at hR
    simp only [Option.bind_some]
    by_cases h4 : rs[i] = 1
    · rw [if_pos h4]
      simp only [h4, if_true] at hR ih
      by_cases h : near m at_ ms[j'] = true
      · have h' : -m ≤ ms[j'].f1 - at_ ∧ ms[j'].f1 - at_ ≤ m := of_decide_eq_true h
        rw [decide_eq_true (show ms[j'].f1 - m ≤ at_ ∧ at_ ≤ ms[j'].f1 + m by omega), if_pos rfl, if_pos (by omega)]
        simp only [h, if_true] at hR
        exact ih k (j' + 1) _ (by omega) (by omega) (by simp; omega) (fun k' hk' => by rw [List.append_assoc]; exact hR k' hk')
      · have h' : ¬ (-m ≤ ms[j'].f1 - at_ ∧ ms[j'].f1 - at_ ≤ m) := fun q => h (decide_eq_true q)
        rw [decide_eq_false (show ¬ (ms[j'].f1 - m ≤ at_ ∧ at_ ≤ ms[j'].f1 + m) by omega), if_neg (by decide)]
        simp only [h, if_false, List.nil_append, Bool.false_eq_true] at hR
        exact ih k (j' + 1) _ (by omega) (by omega) (by omega) hR
    · rw [if_neg h4]
      simp only [h4, if_false] at hR ih
      exact ih k (j' + 1) _ (by omega) (by omega) (by omega) hR
theorem spec_Felt_loop {s j m l o : Int} (hm : 0 ≤ m ∧ m ≤ 10000) (ms : List S37) (hms : marksB ms = true) (ts : List S90) (hts : ts.length ≤ 2000) (rs : List Int) (hrs : rs.length = ts.length) (d : Nat) :
    ∀ (k i : Nat) (at_ : Int) (out : List S34), i + d = ts.length → d * (ms.length + 3) + 1 ≤ k → (0 ≤ at_ ∧ at_ ≤ 100000000) → out.length ≤ i * (ms.length + 1) →
      spec_Felt.l0 k ms at_ rs out ts (ts.length : Int) (i : Int) s j m l o = some (feltGo m ms at_ out (ts.drop i) (rs.drop i)) := by
  have hml := marks_len hms
  induction d with
  | zero =>
    intro k i at_ out hi hk ha ho
    obtain ⟨k, rfl⟩ : ∃ q, k = q + 1 := ⟨k - 1, by omega⟩
    simp only [spec_Felt.l0]
    rw [if_neg (by omega), List.drop_of_length_le (show ts.length ≤ i by omega), feltGo_nil]
    split <;> rfl
  | succ d ih =>
    intro k i at_ out hi hk ha ho
    rw [Nat.succ_mul] at hk
    generalize hq : d * (ms.length + 3) = q at hk ih
    obtain ⟨k, rfl⟩ : ∃ q, k = q + 1 := ⟨k - 1, by omega⟩
    have hit : i < ts.length := by omega
    have hir : i < rs.length := by omega
    have hol : out.length ≤ 1000000 := Nat.le_trans ho (Nat.le_trans (Nat.mul_le_mul (show i ≤ 2000 by omega) (show ms.length + 1 ≤ 101 by omega)) (by omega))
    simp only [spec_Felt.l0, l4true_eq, Option.bind_some, decide_eq_true_eq]
    rw [if_pos (by omega), if_pos (by omega), if_pos (by omega), rdT ts i hit, List.drop_eq_getElem_cons hit, List.drop_eq_getElem_cons hir]
    simp only [feltGo]
    generalize ts[i] = t
    by_cases h1 : tickR t
    · rw [if_pos h1, if_pos h1, w64 (a := at_ + t.f0) (by omega)]
      by_cases h3 : at_ + t.f0 > 100000000
      · rw [if_pos h3, if_pos h3]
      · rw [if_neg h3, if_neg h3, if_pos (by omega)]
        have hlen2 : ∀ z : List S34, z.length ≤ ms.length → (out ++ [(⟨1, t.f1⟩ : S34)] ++ z).length ≤ (i + 1) * (ms.length + 1) := by
          intro z hz
          rw [Nat.succ_mul, List.length_append, List.length_append]
          simp only [List.length_singleton]
          omega
        exact spec_Felt_inner (s := s) (j := j) (l := l) (o := o) hm ms hms ts rs (at_ + t.f0) (by omega) i (by omega) hir (q + 1) _ ms.length k 0 (out ++ [⟨1, t.f1⟩]) (by omega) (by omega) (by simp; omega) (fun k' hk' => by
          rw [List.drop_zero]
          have := ih k' (i + 1) (at_ + t.f0) (out ++ [⟨1, t.f1⟩] ++ (if rs[i] = 1 then seen m (at_ + t.f0) ms else [])) (by omega) (by omega) (by omega) (hlen2 (if rs[i] = 1 then seen m (at_ + t.f0) ms else []) (by split <;> first | exact seen_len .. | simp))
          rwa [show ((i + 1 : Nat) : Int) = (i : Int) + 1 by omega] at this)
    · rw [if_neg h1, if_neg h1]
theorem spec_Felt_eq (s j m l o : Int) (ms : List S37) (hns : ms.length ≤ 9000000000000) (at_ : Int) (ts : List S90) (rs : List Int) (hn : rs.length ≤ 9000000000000) (hn2 : ts.length ≤ 9000000000000) {k : Nat} (hk : ms.length * (ms.length + 3) + 210000 ≤ k) :
    spec_Felt.f k s j m l o ms at_ ts rs = some (feltV s j m l o ms at_ ts rs) := by
  simp only [spec_Felt.f, spec_RulesOk_eq, spec_MarksOk_eq ms hns (show ms.length * (ms.length + 3) + 1 ≤ k by omega), spec_l1in_eq, Option.bind_some, decide_eq_true_eq]
  obtain ⟨k, rfl⟩ : ∃ q, k = q + 1 := ⟨k - 1, by omega⟩
  simp only [spec_Felt.j0, if_true, feltV]
  by_cases hr : okR s j m l o
  · rw [if_pos hr]
    by_cases hm : marksB ms = true
    · rw [if_pos hm]
      by_cases ha : 0 ≤ at_ ∧ at_ ≤ 100000000
      · rw [if_pos ha]
        by_cases ht : ts.length ≤ 2000
        · rw [if_neg (show ¬ (ts.length : Int) > 2000 by omega)]
          by_cases hl : rs.length = ts.length
          · rw [if_pos (show okR s j m l o ∧ marksB ms = true ∧ (0 ≤ at_ ∧ at_ ≤ 100000000) ∧ ts.length ≤ 2000 ∧ rs.length = ts.length from ⟨hr, hm, ha, ht, hl⟩), hl]
            simp only [bne_self_eq_false, Bool.false_eq_true, if_false]
            have hml := marks_len hm
            have hb : ts.length * (ms.length + 3) ≤ 2000 * 103 := Nat.mul_le_mul ht (by omega)
            have := spec_Felt_loop (s := s) (j := j) (l := l) (o := o) (m := m) (by omega) ms hm ts ht rs hl ts.length k 0 at_ [] (by omega) (by omega) ha (by simp)
            simpa using this
          · rw [if_neg (show ¬ (okR s j m l o ∧ marksB ms = true ∧ (0 ≤ at_ ∧ at_ ≤ 100000000) ∧ ts.length ≤ 2000 ∧ rs.length = ts.length) from fun h => hl h.2.2.2.2), if_pos]
            rw [bne_iff_ne]
            omega
        · rw [if_pos (show (ts.length : Int) > 2000 by omega), if_neg (show ¬ (okR s j m l o ∧ marksB ms = true ∧ (0 ≤ at_ ∧ at_ ≤ 100000000) ∧ ts.length ≤ 2000 ∧ rs.length = ts.length) from fun h => ht h.2.2.2.1)]
      · rw [if_neg ha, if_neg (show ¬ (okR s j m l o ∧ marksB ms = true ∧ (0 ≤ at_ ∧ at_ ≤ 100000000) ∧ ts.length ≤ 2000 ∧ rs.length = ts.length) from fun h => ha h.2.2.1)]
    · rw [if_neg hm, if_neg (show ¬ (okR s j m l o ∧ marksB ms = true ∧ (0 ≤ at_ ∧ at_ ≤ 100000000) ∧ ts.length ≤ 2000 ∧ rs.length = ts.length) from fun h => hm h.2.1)]
  · rw [if_neg hr, if_neg (show ¬ (okR s j m l o ∧ marksB ms = true ∧ (0 ≤ at_ ∧ at_ ≤ 100000000) ∧ ts.length ≤ 2000 ∧ rs.length = ts.length) from fun h => hr h.1)]
theorem feltGo_len (m : Int) (ms : List S37) : ∀ (ts : List S90) (rs : List Int) (at_ : Int) (out : List S34), (feltGo m ms at_ out ts rs).length ≤ 2000
  | [], rs, at_, out => by rw [feltGo_nil]; split <;> first | omega | simp
  | t :: ts, [], at_, out => by show (if (out.length : Int) > 2000 then [] else out).length ≤ 2000; split <;> first | omega | simp
  | t :: ts, r :: rs, at_, out => by
    simp only [feltGo]
    split
    · split
      · simp
      · exact feltGo_len m ms ts rs _ _
    · simp
theorem feltV_len (s j m l o : Int) (ms : List S37) (at_ : Int) (ts : List S90) (rs : List Int) : (feltV s j m l o ms at_ ts rs).length ≤ 2000 := by
  unfold feltV
  split
  · exact feltGo_len ..
  · simp
/-- What a mark that was found, the i-th, at x, makes of a state. -/
def hitV (s j m l o x i : Int) (kn : Bool) (a b odd : Int) : Bool × Int × Int × Int × Int × Int :=
  if kn = true then (true, (readV s j m l o a b x).1, (readV s j m l o a b x).2, 0, i, if a ≤ stay (x + m) ∧ stay (x - m) ≤ b then odd else mn (odd + 1) 1000000000)
  else (true, stay (x - m), stay (x + m), 0, i, odd)
/-- What an event makes of a state. -/
def doV (s j m l o : Int) (ms : List S37) (kn : Bool) (a b since last odd op n : Int) : Bool × Int × Int × Int × Int × Int :=
  if op = 1 then (if kn = true then (kn, (wheelV s j m l o a b n).1, (wheelV s j m l o a b n).2, mn (since + n) 1000000000, last, odd) else (kn, a, b, mn (since + n) 1000000000, last, odd))
  else if op = 2 then (match ms.findIdx? (fun x => x.f0 == n) with | some i => hitV s j m l o (rd_T37 ms (i : Int)).f1 i kn a b odd | none => (kn, a, b, since, last, mn (odd + 1) 1000000000))
  else if op = 4 then (false, 0, 0, 0, -1, odd) else (kn, a, b, since, last, odd)
theorem rdMk (xs : List S37) (i : Nat) (h : i < xs.length) : rd_T37 xs (i : Int) = xs[i] := by
  simp [rd_T37, List.getD_eq_getElem?_getD, h]
theorem find_some (ms : List S37) (n : Int) (i : Nat) (hi : i < ms.length) (h : (rd_T37 ms (i : Int)).f0 = n) (hb : ∀ j : Nat, j < i → (rd_T37 ms (j : Int)).f0 ≠ n) : ms.findIdx? (fun x => x.f0 == n) = some i := by
  rw [List.findIdx?_eq_some_iff_getElem]
  refine ⟨hi, by rw [rdMk ms i hi] at h; simpa using h, fun j hj => ?_⟩
  have := hb j hj
  rw [rdMk ms j (by omega)] at this
  simpa using this
theorem find_none (ms : List S37) (n : Int) (hb : ∀ j : Nat, j < ms.length → (rd_T37 ms (j : Int)).f0 ≠ n) : ms.findIdx? (fun x => x.f0 == n) = none := by
  rw [List.findIdx?_eq_none_iff]
  intro x hx
  obtain ⟨j, hj, rfl⟩ := List.getElem_of_mem hx
  have := hb j hj
  rw [rdMk ms j hj] at this
  simpa using this
theorem find_lt (ms : List S37) (n : Int) (i : Nat) (h : ms.findIdx? (fun x => x.f0 == n) = some i) : i < ms.length ∧ (rd_T37 ms (i : Int)).f0 = n := by
  rw [List.findIdx?_eq_some_iff_getElem] at h
  obtain ⟨hi, h1, _⟩ := h
  exact ⟨hi, by rw [rdMk ms i hi]; simpa using h1⟩
theorem marks_ne {ms : List S37} (h : marksB ms = true) {i j : Nat} (hij : i < j) (hj : j < ms.length) : (rd_T37 ms (i : Int)).f0 ≠ (rd_T37 ms (j : Int)).f0 := by
  have hk := okAt_of h hj
  unfold okAt at hk
  simp only [Bool.and_eq_true] at hk
  have hh : hadB ms j (rd_T37 ms (j : Int)).f0 = false := by simpa using hk.1.1.2
  unfold hadB at hh
  rw [List.any_eq_false] at hh
  have := hh i (List.mem_range.2 hij)
  simpa using this
theorem impl_do_loop {s j m l o : Int} (hm : 0 ≤ m ∧ m ≤ 10000) (ms : List S37) (hms : marksB ms = true) (kn : Bool) (a b since last odd op n : Int) (ho : 0 ≤ odd ∧ odd ≤ 1000000000) (hop : op = 2) (d : Nat) :
    ∀ (k i : Nat), i + d = ms.length → d + 1 < k → (∀ j : Nat, j < i → (rd_T37 ms (j : Int)).f0 ≠ n) → impl_do.l0 k ms (ms.length : Int) (i : Int) s j m l o kn a b since last odd op n = some (doV s j m l o ms kn a b since last odd op n) := by
  have hml := marks_len hms
  induction d with
  | zero =>
    intro k i hi hk hb
    obtain ⟨k, rfl⟩ : ∃ q, k = q + 1 := ⟨k - 1, by omega⟩
    simp only [impl_do.l0]
    rw [if_neg (by omega), w64 (a := odd + 1) (by omega)]
    unfold doV
    rw [if_neg (by omega), if_pos hop, find_none ms n (fun j hj => hb j (by omega))]
  | succ d ih =>
    intro k i hi hk hb
    obtain ⟨k, rfl⟩ : ∃ q, k = q + 1 := ⟨k - 1, by omega⟩
    have hil : i < ms.length := by omega
    have hx := (okAt_range (okAt_of hms hil)).2
    simp only [impl_do.l0]
    rw [if_pos (by omega), if_pos (by omega), if_pos (by omega), w64 (a := (i : Int) + 1) (by omega), w64 (a := odd + 1) (by omega)]
    by_cases h : (rd_T37 ms (i : Int)).f0 = n
    · rw [if_pos h, impl_own_eq hm hx]
      unfold doV
      rw [if_neg (show ¬ op = 1 by omega), if_pos hop, find_some ms n i hil h hb]
      simp only [Option.bind_some, impl_Meets_eq, impl_Read_eq s j m l o a b _ (show 1 ≤ k by omega), decide_eq_true_eq, hitV]
      cases kn with
      | false => rfl
      | true =>
        rw [if_pos rfl, if_pos rfl]
        by_cases h2 : a ≤ stay ((rd_T37 ms (i : Int)).f1 + m) ∧ stay ((rd_T37 ms (i : Int)).f1 - m) ≤ b
        · rw [if_pos ⟨h2.2, h2.1⟩, if_pos h2]
        · rw [if_neg (fun q => h2 ⟨q.2, q.1⟩), if_neg h2]
    · rw [if_neg h]
      have := ih k (i + 1) (by omega) (by omega) (fun j hj => by
        rcases Nat.lt_or_ge j i with q | q
        · exact hb j q
        · obtain rfl : j = i := by omega
          exact h)
      rwa [show ((i + 1 : Nat) : Int) = (i : Int) + 1 by omega] at this
theorem impl_do_eq {s j m l o : Int} (hm : 0 ≤ m ∧ m ≤ 10000) (ms : List S37) (hms : marksB ms = true) (kn : Bool) (a b since last odd op n : Int) (hs : 0 ≤ since ∧ since ≤ 1000000000) (ho : 0 ≤ odd ∧ odd ≤ 1000000000) (he : okE op n) {k : Nat} (hk : 102 ≤ k) :
    impl_do.f k s j m l o ms kn a b since last odd op n = some (doV s j m l o ms kn a b since last odd op n) := by
  have hml := marks_len hms
  unfold impl_do.f
  by_cases h1 : op = 1
  · rw [if_pos h1, w64 (a := since + n) (by omega), impl_Wheel_eq s j m l o a b n (show 1 ≤ k by omega)]
    unfold doV
    rw [if_pos h1]
    cases kn <;> rfl
  · rw [if_neg h1]
    by_cases h2 : op = 2
    · rw [if_pos h2]
      exact impl_do_loop hm ms hms kn a b since last odd op n ho h2 ms.length k 0 (by omega) (by omega) (fun j hj => absurd hj (by omega))
    · rw [if_neg h2]
      unfold doV
      rw [if_neg h1, if_neg h2]
      split <;> rfl
theorem stateB_of {ms : List S37} {kn : Bool} {a b since last odd : Int} (h : stateB ms kn a b since last odd = true) :
    marksB ms = true ∧ (-1 ≤ last ∧ last ≤ (ms.length : Int) - 1) ∧ (0 ≤ since ∧ since ≤ 1000000000) ∧ (0 ≤ odd ∧ odd ≤ 1000000000) ∧ (kn = true → okB a b) ∧ (kn = false → a = 0 ∧ b = 0 ∧ last = -1) := by
  unfold stateB at h
  simp only [Bool.and_eq_true, decide_eq_true_eq] at h
  obtain ⟨⟨⟨⟨h1, h2⟩, h3⟩, h4⟩, h5⟩ := h
  refine ⟨h1, h2, h3, h4, fun q => ?_, fun q => ?_⟩
  · subst q
    exact of_decide_eq_true h5
  · subst q
    exact of_decide_eq_true h5
theorem stateB_mk {ms : List S37} {kn : Bool} {a b since last odd : Int} (h1 : marksB ms = true) (h2 : -1 ≤ last ∧ last ≤ (ms.length : Int) - 1) (h3 : 0 ≤ since ∧ since ≤ 1000000000) (h4 : 0 ≤ odd ∧ odd ≤ 1000000000) (h5 : kn = true → okB a b) (h6 : kn = false → a = 0 ∧ b = 0 ∧ last = -1) : stateB ms kn a b since last odd = true := by
  unfold stateB
  rw [h1, decide_eq_true h2, decide_eq_true h3, decide_eq_true h4]
  cases kn with
  | true => rw [if_pos rfl, decide_eq_true (h5 rfl)]; rfl
  | false => rw [if_neg (by decide), decide_eq_true (h6 rfl)]; rfl
theorem wheel_okB {s j m l o a b c : Int} (hr : okR s j m l o) (hb : okB a b) (hc : 0 ≤ c ∧ c ≤ 100000) : okB (wheelV s j m l o a b c).1 (wheelV s j m l o a b c).2 := by
  have hl := lst_le (s := s) (j := j) (c := c) (by omega) (by omega) hc.1
  have hl0 := lst_nonneg (s := s) (j := j) (c := c) (by omega)
  have hm0 := le_mst (s := s) (j := j) (c := c) (by omega) (by omega) (by omega) hc.1
  unfold wheelV
  rw [if_pos ⟨hr, hb, hc⟩]
  dsimp only [okB, stay]
  omega
theorem read_okB {s j m l o a b x : Int} (hr : okR s j m l o) (hb : okB a b) (hx : 0 ≤ x ∧ x ≤ 100000000) : okB (readV s j m l o a b x).1 (readV s j m l o a b x).2 := by
  unfold readV
  rw [if_pos ⟨hr, hb, hx⟩]
  split
  · rename_i h
    simp only [stay] at h
    dsimp only [okB, stay]
    omega
  · dsimp only [okB, stay]
    omega
theorem mn_rg {a : Int} (h : 0 ≤ a ∧ a ≤ 2000000000) : 0 ≤ mn a 1000000000 ∧ mn a 1000000000 ≤ 1000000000 := by
  unfold mn
  split <;> omega
/-- A right state stays one. -/
theorem do_state {s j m l o : Int} (hr : okR s j m l o) {ms : List S37} {kn : Bool} {a b since last odd op n : Int} (h : stateB ms kn a b since last odd = true) (he : okE op n) :
    stateB ms (doV s j m l o ms kn a b since last odd op n).1 (doV s j m l o ms kn a b since last odd op n).2.1 (doV s j m l o ms kn a b since last odd op n).2.2.1 (doV s j m l o ms kn a b since last odd op n).2.2.2.1 (doV s j m l o ms kn a b since last odd op n).2.2.2.2.1 (doV s j m l o ms kn a b since last odd op n).2.2.2.2.2 = true := by
  obtain ⟨h1, h2, h3, h4, h5, h6⟩ := stateB_of h
  unfold doV
  by_cases e1 : op = 1
  · rw [if_pos e1]
    split
    · rename_i hk
      exact stateB_mk h1 h2 (mn_rg (by omega)) h4 (fun _ => wheel_okB hr (h5 hk) (by omega)) (fun q => by rw [hk] at q; cases q)
    · rename_i hk
      exact stateB_mk h1 h2 (mn_rg (by omega)) h4 (fun q => absurd q hk) h6
  · rw [if_neg e1]
    by_cases e2 : op = 2
    · rw [if_pos e2]
      split
      · rename_i i hf
        have hi := (find_lt ms n i hf).1
        have hx := (okAt_range (okAt_of h1 hi)).2
        unfold hitV
        split
        · rename_i hk
          refine stateB_mk h1 (by dsimp only; omega) (by dsimp only; omega) ?_ (fun _ => read_okB hr (h5 hk) hx) (fun q => by cases q)
          dsimp only
          split
          · exact h4
          · exact mn_rg (by omega)
        · exact stateB_mk h1 (by dsimp only; omega) (by dsimp only; omega) h4 (fun _ => by dsimp only [okB, stay]; omega) (fun q => by cases q)
      · exact stateB_mk h1 h2 h3 (mn_rg (by omega)) h5 h6
    · rw [if_neg e2]
      split
      · exact stateB_mk h1 (by dsimp only; omega) (by dsimp only; omega) h4 (fun q => by cases q) (fun _ => ⟨rfl, rfl, rfl⟩)
      · exact h
abbrev St6 := Bool × Int × Int × Int × Int × Int
def stS (t : St6) : S29 := ⟨t.1, ⟨t.2.1, t.2.2.1⟩, t.2.2.2.1, t.2.2.2.2.1, t.2.2.2.2.2⟩
abbrev doT (s j m l o : Int) (ms : List S37) (t : St6) (e : S34) : St6 := doV s j m l o ms t.1 t.2.1 t.2.2.1 t.2.2.2.1 t.2.2.2.2.1 t.2.2.2.2.2 e.f0 e.f1
abbrev stT (ms : List S37) (t : St6) : Prop := stateB ms t.1 t.2.1 t.2.2.1 t.2.2.2.1 t.2.2.2.2.1 t.2.2.2.2.2 = true
/-- What Run answers, from a state on. -/
def runGo (s j m l o : Int) (ms : List S37) : St6 → List S29 → List S34 → List S29
  | _, out, [] => out
  | t, out, e :: es => if okE e.f0 e.f1 then runGo s j m l o ms (doT s j m l o ms t e) (out ++ [stS (doT s j m l o ms t e)]) es else []
def runV (s j m l o : Int) (ms : List S37) (lo hi : Int) (es : List S34) : List S29 :=
  if okR s j m l o ∧ marksB ms = true ∧ okB lo hi ∧ es.length ≤ 2000 then runGo s j m l o ms (true, lo, hi, 0, -1, 0) [] es else []
theorem rdEv (xs : List S34) (i : Nat) (h : i < xs.length) : rd_T34 xs (i : Int) = xs[i] := by
  simp [rd_T34, List.getD_eq_getElem?_getD, h]
theorem runGo_bad (s j m l o : Int) (ms : List S37) (es : List S34) : ∀ (t : St6) (out : List S29) (x : S34), x ∈ es → ¬ okE x.f0 x.f1 → runGo s j m l o ms t out es = [] := by
  induction es with
  | nil => intro t out x hx; cases hx
  | cons e es ih =>
    intro t out x hx hn
    simp only [runGo]
    by_cases h : okE e.f0 e.f1
    · rw [if_pos h]
      rcases List.mem_cons.1 hx with q | q
      · subst q
        exact absurd h hn
      · exact ih _ _ x q hn
    · rw [if_neg h]
theorem impl_Run_loop {s j m l o : Int} (hr : okR s j m l o) (ms : List S37) (es : List S34) (hes : es.length ≤ 2000) (d : Nat) :
    ∀ (k i : Nat) (t : St6) (out : List S29), i + d = es.length → d + 200 ≤ k → stT ms t → out.length ≤ i →
      impl_Run.l0 k ms out es (es.length : Int) (i : Int) s j m l o t.1 t.2.1 t.2.2.1 t.2.2.2.1 t.2.2.2.2.1 t.2.2.2.2.2 = some (runGo s j m l o ms t out (es.drop i)) := by
  induction d with
  | zero =>
    intro k i t out hi hk ht ho
    obtain ⟨k, rfl⟩ : ∃ q, k = q + 1 := ⟨k - 1, by omega⟩
    simp only [impl_Run.l0]
    rw [if_neg (by omega), List.drop_of_length_le (by omega)]
    rfl
  | succ d ih =>
    intro k i t out hi hk ht ho
    obtain ⟨k, rfl⟩ : ∃ q, k = q + 1 := ⟨k - 1, by omega⟩
    have hil : i < es.length := by omega
    simp only [impl_Run.l0, impl_EventOk_eq, Option.bind_some, decide_eq_true_eq]
    rw [if_pos (by omega), if_pos (by omega), if_pos (by omega), rdEv es i hil, w64 (a := (i : Int) + 1) (by omega), List.drop_eq_getElem_cons hil]
    simp only [runGo]
    generalize es[i] = e
    by_cases h : okE e.f0 e.f1
    · have hq := stateB_of ht
      rw [if_pos h, if_pos h, impl_do_eq (by omega) ms hq.1 _ _ _ _ _ _ _ _ hq.2.2.1 hq.2.2.2.1 h (by omega)]
      simp only [Option.bind_some]
      rw [if_pos (by omega)]
      have := ih k (i + 1) (doT s j m l o ms t e) (out ++ [stS (doT s j m l o ms t e)]) (by omega) (by omega) (do_state hr ht h) (by simp; omega)
      rwa [show ((i + 1 : Nat) : Int) = (i : Int) + 1 by omega] at this
    · rw [if_neg h, if_neg h]
theorem st0 {ms : List S37} (h : marksB ms = true) {lo hi : Int} (hb : okB lo hi) : stT ms (true, lo, hi, 0, -1, 0) := stateB_mk h (by dsimp only; omega) (by dsimp only; omega) (by dsimp only; omega) (fun _ => hb) (fun q => by cases q)
theorem impl_Run_eq (s j m l o : Int) (ms : List S37) (lo hi : Int) (es : List S34) {k : Nat} (hk : 3000 ≤ k) : impl_Run.f k s j m l o ms lo hi es = some (runV s j m l o ms lo hi es) := by
  obtain ⟨k, rfl⟩ : ∃ q, k = q + 1 := ⟨k - 1, by omega⟩
  simp only [impl_Run.f, impl_RulesOk_eq, impl_MarksOk_eq, impl_BoundOk_eq, Option.bind_some, decide_eq_true_eq, impl_Run.j0, if_true, runV]
  by_cases hr : okR s j m l o
  · rw [if_pos hr]
    by_cases hm : marksB ms = true
    · rw [if_pos hm]
      by_cases hb : okB lo hi
      · rw [if_pos hb]
        by_cases hl : es.length ≤ 2000
        · rw [if_neg (by omega), if_pos ⟨hr, hm, hb, hl⟩]
          exact impl_Run_loop hr ms es hl es.length k 0 (true, lo, hi, 0, -1, 0) [] (by omega) (by omega) (st0 hm hb) (by simp)
        · rw [if_pos (by omega), if_neg (fun h => hl h.2.2.2)]
      · rw [if_neg hb, if_neg (fun h => hb h.2.2.1)]
    · rw [if_neg hm, if_neg (fun h => hm h.2.1)]
  · rw [if_neg hr, if_neg (fun h => hr h.1)]
/-- What a train is told that is at a place, before these ticks: wheels that are fair, and marks that are near. -/
inductive Told (s j m : Int) (ms : List S37) : Int → List S90 → List S34 → Prop
  | done (x : Int) : Told s j m ms x [] []
  | tick (x : Int) (t : S90) (ts : List S90) (es : List S34) (h : tOk s j t = true) (hx : x + t.f0 ≤ 100000000) (r : Told s j m ms (x + t.f0) ts es) : Told s j m ms x (t :: ts) (⟨1, t.f1⟩ :: es)
  | mark (x : Int) (ts : List S90) (es : List S34) (i : Nat) (hi : i < ms.length) (h : -m ≤ (rd_T37 ms (i : Int)).f1 - x ∧ (rd_T37 ms (i : Int)).f1 - x ≤ m) (r : Told s j m ms x ts es) : Told s j m ms x ts (⟨2, (rd_T37 ms (i : Int)).f0⟩ :: es)
theorem told_seen {s j m : Int} {ms : List S37} {x : Int} {ts : List S90} {es : List S34} (r : Told s j m ms x ts es) : ∀ (d i : Nat), i + d = ms.length → Told s j m ms x ts (seen m x (ms.drop i) ++ es) := by
  intro d
  induction d with
  | zero =>
    intro i hi
    rw [List.drop_of_length_le (by omega)]
    exact r
  | succ d ih =>
    intro i hi
    have hil : i < ms.length := by omega
    rw [List.drop_eq_getElem_cons hil, seen_cons]
    have := ih (i + 1) (by omega)
    by_cases h : near m x ms[i] = true
    · rw [if_pos h, List.append_assoc]
      have h' : -m ≤ ms[i].f1 - x ∧ ms[i].f1 - x ≤ m := of_decide_eq_true h
      rw [← rdM ms i hil] at h' ⊢
      exact .mark x ts _ i hil h' this
    · rw [if_neg h, List.nil_append]
      exact this
theorem felt_told {s j m : Int} (ms : List S37) (hml : ms.length ≤ 7) : ∀ (ts : List S90) (rs : List Int) (x : Int) (out : List S34), rs.length = ts.length → (0 ≤ x ∧ x + 200 * (ts.length : Int) ≤ 100000000) → (∀ t ∈ ts, tOk s j t = true ∧ 0 ≤ t.f0 ∧ t.f0 ≤ 200) → out.length + 8 * ts.length ≤ 2000 →
    ∃ es, feltGo m ms x out ts rs = out ++ es ∧ Told s j m ms x ts es ∧ es.length ≤ 8 * ts.length
  | [], rs, x, out, hr, hx, ht, ho => ⟨[], by rw [feltGo_nil, if_neg (by simp at ho; omega), List.append_nil], .done x, by simp⟩
  | t :: ts, [], x, out, hr, hx, ht, ho => by simp at hr
  | t :: ts, r :: rs, x, out, hr, hx, ht, ho => by
    simp only [List.length_cons] at hr hx ho
    have h0 := ht t (List.mem_cons_self ..)
    have h1 : tickR t := ⟨(of_decide_eq_true h0.1).1, (of_decide_eq_true h0.1).2.1⟩
    simp only [feltGo]
    rw [if_pos h1, if_neg (by omega)]
    have hs := seen_len m (x + t.f0) ms
    have hmem : ∀ y ∈ ts, tOk s j y = true ∧ 0 ≤ y.f0 ∧ y.f0 ≤ 200 := fun y hy => ht y (List.mem_cons_of_mem _ hy)
    by_cases h : r = 1
    · rw [if_pos h]
      obtain ⟨es, e, hT, hl⟩ := felt_told ms hml ts rs (x + t.f0) (out ++ [⟨1, t.f1⟩] ++ seen m (x + t.f0) ms) (by omega) (by omega) hmem (by simp only [List.length_append, List.length_cons, List.length_nil]; omega)
      refine ⟨⟨1, t.f1⟩ :: (seen m (x + t.f0) ms ++ es), by rw [e]; simp, .tick x t ts _ h0.1 (by omega) ?_, ?_⟩
      · have := told_seen hT ms.length 0 (by omega)
        rwa [List.drop_zero] at this
      · simp only [List.length_append, List.length_cons]; omega
    · rw [if_neg h]
      obtain ⟨es, e, hT, hl⟩ := felt_told ms hml ts rs (x + t.f0) (out ++ [⟨1, t.f1⟩] ++ []) (by omega) (by omega) hmem (by simp only [List.length_append, List.length_cons, List.length_nil]; omega)
      exact ⟨⟨1, t.f1⟩ :: es, by rw [e]; simp, .tick x t ts _ h0.1 (by omega) hT, by simp only [List.length_cons]; omega⟩
/-- The states behind the events. -/
def runL (s j m l o : Int) (ms : List S37) : St6 → List S34 → List S29
  | _, [] => []
  | t, e :: es => stS (doT s j m l o ms t e) :: runL s j m l o ms (doT s j m l o ms t e) es
theorem told_ok {s j m : Int} {ms : List S37} (hms : marksB ms = true) {x : Int} {ts : List S90} {es : List S34} (r : Told s j m ms x ts es) : ∀ e ∈ es, okE e.f0 e.f1 := by
  induction r with
  | done x => intro e he; cases he
  | tick x t ts es h hx r ih =>
    intro e he
    rcases List.mem_cons.1 he with q | q
    · subst q
      have := (of_decide_eq_true h).2.1
      exact .inl ⟨rfl, this⟩
    · exact ih e q
  | mark x ts es i hi h r ih =>
    intro e he
    rcases List.mem_cons.1 he with q | q
    · subst q
      exact .inr (.inl ⟨rfl, (okAt_range (okAt_of hms hi)).1⟩)
    · exact ih e q
theorem runGo_runL (s j m l o : Int) (ms : List S37) : ∀ (es : List S34) (t : St6) (out : List S29), (∀ e ∈ es, okE e.f0 e.f1) → runGo s j m l o ms t out es = out ++ runL s j m l o ms t es
  | [], t, out, _ => by simp [runGo, runL]
  | e :: es, t, out, h => by
    simp only [runGo, runL]
    rw [if_pos (h e (List.mem_cons_self ..)), runGo_runL s j m l o ms es _ _ (fun y hy => h y (List.mem_cons_of_mem _ hy))]
    simp
theorem runL_len (s j m l o : Int) (ms : List S37) : ∀ (es : List S34) (t : St6), (runL s j m l o ms t es).length = es.length
  | [], t => rfl
  | e :: es, t => by simp [runL, runL_len s j m l o ms es]
theorem drop_at {α : Type} {xs : List α} {i : Nat} {y : α} {ys : List α} (h : xs.drop i = y :: ys) : ∃ hi : i < xs.length, xs[i] = y ∧ xs.drop (i + 1) = ys := by
  by_cases hi : i < xs.length
  · rw [List.drop_eq_getElem_cons hi] at h
    injection h with h1 h2
    exact ⟨hi, h1, h2⟩
  · rw [List.drop_of_length_le (by omega)] at h
    cases h
/-- The place is known, it is within the bound, nothing was odd. -/
abbrev Inv (x : Int) (t : St6) : Prop := t.1 = true ∧ t.2.1 ≤ x ∧ x ≤ t.2.2.1 ∧ t.2.2.2.2.2 = 0
theorem inv_wheel {s j m l o : Int} (hr : okR s j m l o) {ms : List S37} {x : Int} {t : St6} (hx : 0 ≤ x) (ht : stT ms t) (hi : Inv x t) {f n : Int} (hf : tOk s j ⟨f, n⟩ = true) (hb : x + f ≤ 100000000) : Inv (x + f) (doT s j m l o ms t ⟨1, n⟩) := by
  obtain ⟨kn, a, b, since, last, odd⟩ := t
  obtain ⟨h1, h2, h3, h4⟩ := hi
  dsimp only at h1 h2 h3 h4
  subst h1
  have hB := (stateB_of ht).2.2.2.2.1 rfl
  dsimp only at hB
  obtain ⟨f1, f2, f3⟩ := of_decide_eq_true hf
  dsimp only at f1 f2 f3
  have hl : lst s j n ≤ f := by rw [lst_le_iff (by omega) f1.1]; have := f3.2; omega
  have hm : f ≤ mst s j n := by rw [le_mst_iff (by omega)]; have := f3.1; omega
  dsimp only [doT]
  unfold doV
  rw [if_pos rfl, if_pos rfl]
  unfold wheelV
  rw [if_pos ⟨hr, hB, f2⟩]
  refine ⟨rfl, ?_, ?_, h4⟩
  · dsimp only [stay]; omega
  · dsimp only [stay]; omega
theorem inv_mark {s j m l o : Int} (hr : okR s j m l o) {ms : List S37} {x : Int} {t : St6} (hx : 0 ≤ x ∧ x ≤ 100000000) (ht : stT ms t) (hi : Inv x t) (i : Nat) (hil : i < ms.length) (h : -m ≤ (rd_T37 ms (i : Int)).f1 - x ∧ (rd_T37 ms (i : Int)).f1 - x ≤ m) : Inv x (doT s j m l o ms t ⟨2, (rd_T37 ms (i : Int)).f0⟩) := by
  obtain ⟨kn, a, b, since, last, odd⟩ := t
  obtain ⟨h1, h2, h3, h4⟩ := hi
  dsimp only at h1 h2 h3 h4
  subst h1
  have hq := stateB_of ht
  have hB := hq.2.2.2.2.1 rfl
  dsimp only at hB
  have hf : ms.findIdx? (fun x => x.f0 == (rd_T37 ms (i : Int)).f0) = some i := find_some ms _ i hil rfl (fun t' ht' => marks_ne hq.1 ht' hil)
  have hw := (okAt_range (okAt_of hq.1 hil)).2
  dsimp only [doT]
  unfold doV
  rw [if_neg (by decide), if_pos rfl, hf]
  dsimp only
  generalize (rd_T37 ms (i : Int)).f1 = w at h hw ⊢
  unfold hitV
  have hmt : a ≤ stay (w + m) ∧ stay (w - m) ≤ b := by unfold stay; omega
  have hv : readV s j m l o a b w = (max a (stay (w - m)), min b (stay (w + m))) := by
    unfold readV
    rw [if_pos ⟨hr, hB, hw⟩, if_pos hmt]
  rw [if_pos rfl, hv, if_pos hmt]
  refine ⟨rfl, ?_, ?_, h4⟩
  · dsimp only [stay]; omega
  · dsimp only [stay]; omega
theorem Holds_known {s j m l o : Int} (hr : okR s j m l o) {a b x y z : Int} (hb : okB a b) : impl_Holds.f s j m l o true a b x y z = some (a - l - o, b) := by
  simp only [impl_Holds.f, impl_told_eq, Option.bind_some, decide_eq_true_eq]
  rw [if_pos ⟨hr, trivial, hb⟩, w64 (a := a - l) (by omega), w64 (a := a - l - o) (by omega)]
theorem Past_known {s j m l o : Int} (hr : okR s j m l o) {a b x y z p : Int} (hb : okB a b) (hp : -100000000 ≤ p ∧ p ≤ 100000000) {k : Nat} (hk : 1 ≤ k) : impl_Past.f k s j m l o true a b x y z p = some (if a - l - o > p then 1 else if b < p then -1 else 0) := by
  obtain ⟨k, rfl⟩ : ∃ q, k = q + 1 := ⟨k - 1, by omega⟩
  simp only [impl_Past.f, impl_told_eq, impl_in_eq, Holds_known hr hb, Option.bind_some, decide_eq_true_eq, impl_Past.j0]
  rw [if_pos ⟨hr, trivial, hb⟩, decide_eq_true hp]
  simp only [Bool.not_true, Bool.false_eq_true, if_false]
  (repeat' split) <;> rfl
theorem Surely_known {s j m l o : Int} (hr : okR s j m l o) {a b x y z : Int} (hb : okB a b) : impl_Surely.f s j m l o true a b x y z = some (if b - max 0 (l - o) > a then (1, 0) else (b - max 0 (l - o), a)) := by
  simp only [impl_Surely.f, impl_told_eq, Option.bind_some, decide_eq_true_eq]
  have e : mx 0 (wrap64 (l - o)) = max 0 (l - o) := by rw [w64 (a := l - o) (by omega)]; unfold mx; split <;> omega
  rw [if_pos ⟨hr, trivial, hb⟩, e, w64 (a := b - max 0 (l - o)) (by omega)]
  split <;> rfl
theorem rd_State2 (xs : List S29) (i : Nat) (h : i < xs.length) : rd_T29 xs (i : Int) = xs[i] := by
  simp [rd_T29, List.getD_eq_getElem?_getD, h]
theorem true_check {s j m l o : Int} (hr : okR s j m l o) {l1 : List Int} (h1 : ∀ x ∈ l1, (Lit.int .u8 x).wf = true) (T : List S90) (G : List S29) (E : List S34) (hE : E.length ≤ 2000) (lg : Int) (hlg : l - o ≤ lg ∧ lg ≤ l + o ∧ 1 ≤ lg) (x : Int) (hx : 0 ≤ x ∧ x ≤ 99999000) (kk : Int) (i : Nat) (hiE : i < E.length) (ms : List S37) (t : St6) (ht : stT ms t) (hi : Inv x t) (hG : i < G.length) (hg : G[i] = stS t) (k : Nat) (R : Option Bool) (hR : laws_FnTrue.l0 k l1 T G x kk lg E (E.length : Int) ((i : Int) + 1) s j m l o = R) (hk : 1 ≤ k) :
    laws_FnTrue.j4 (k + 4) l1 T G x kk lg (i : Int) E (E.length : Int) (i : Int) s j m l o = R := by
  obtain ⟨kn, a, b, since, last, odd⟩ := t
  obtain ⟨q1, q2, q3, q4⟩ := hi
  dsimp only at q1 q2 q3 q4
  subst q1 q4
  have hB := (stateB_of ht).2.2.2.2.1 rfl
  dsimp only at hB
  obtain ⟨v, y0, z0⟩ := wByte_ok h1 (i : Int) (by omega)
  simp only [laws_FnTrue.j4]
  have hg' : G[i] = ⟨true, ⟨a, b⟩, since, last, 0⟩ := hg
  rw [if_pos (by omega), if_pos (by omega), rd_State2 G i hG, hg']
  dsimp only
  rw [if_pos rfl, if_neg (by omega), if_neg (by omega)]
  simp only [laws_FnTrue.j5, Holds_known hr hB, Option.bind_some]
  rw [if_neg (by decide), w64 (a := x - lg) (by omega), if_neg (by omega), decide_eq_false (by omega)]
  simp only [laws_FnTrue.j6]
  rw [if_neg (by decide), y0]
  simp only [Option.bind_some]
  rw [w64 (a := x - lg) (by omega), w64 (a := x + v) (by omega), w64 (a := x + v - 128) (by omega), Past_known hr hB (by omega) (by omega)]
  simp only [Option.bind_some]
  have last : laws_FnTrue.j7 (k + 1) l1 T G x kk lg E (E.length : Int) (i : Int) false s j m l o true a b since last 0 = R := by
    simp only [laws_FnTrue.j7, Surely_known hr hB, Option.bind_some]
    rw [if_neg (by decide), w64 (a := (i : Int) + 1) (by omega), w64 (a := x - lg) (by omega), hR]
    by_cases h : b - max 0 (l - o) > a
    · rw [if_pos h]
      dsimp only
      rw [if_neg (by decide)]
    · rw [if_neg h]
      dsimp only
      rw [if_pos (by omega), if_neg (by omega), if_neg (by omega)]
  by_cases g1 : a - l - o > x + v - 128
  · rw [if_pos g1, if_pos rfl, if_neg (by omega), if_neg (by decide)]
    exact last
  · rw [if_neg g1]
    by_cases g2 : b < x + v - 128
    · rw [if_pos g2, if_neg (by decide), if_pos rfl, decide_eq_false (by omega)]
      exact last
    · rw [if_neg g2, if_neg (by decide), if_neg (by decide)]
      exact last
theorem true_loop {s j m l o : Int} (hr : okR s j m l o) {l1 : List Int} (h1 : ∀ x ∈ l1, (Lit.int .u8 x).wf = true) (ms : List S37) (T : List S90) (hT : T.length ≤ 2000) (G : List S29) (E : List S34) (hE : E.length ≤ 2000) (lg : Int) (hlg : l - o ≤ lg ∧ lg ≤ l + o ∧ 1 ≤ lg) {x : Int} {T' : List S90} {E' : List S34} (r : Told s j m ms x T' E') :
    ∀ (k i kk : Nat) (t : St6), E.drop i = E' → G.drop i = runL s j m l o ms t E' → T.drop kk = T' → stT ms t → Inv x t → 0 ≤ x → x + 200 * (T'.length : Int) ≤ 99999000 → (∀ y ∈ T', 0 ≤ y.f0 ∧ y.f0 ≤ 200) → 6 * E'.length + 6 ≤ k →
      laws_FnTrue.l0 k l1 T G x (kk : Int) lg E (E.length : Int) (i : Int) s j m l o = some true := by
  induction r with
  | done x =>
    intro k i kk t dE dG dT ht hi hx hx2 hf hk
    obtain ⟨k, rfl⟩ : ∃ q, k = q + 1 := ⟨k - 1, by omega⟩
    simp only [laws_FnTrue.l0]
    have : ¬ i < E.length := fun h => by rw [List.drop_eq_getElem_cons h] at dE; cases dE
    rw [if_neg (by omega)]
  | tick x y ts es h hb r ih =>
    intro k i kk t dE dG dT ht hi hx hx2 hf hk
    simp only [List.length_cons] at hk hx2
    obtain ⟨k, rfl⟩ : ∃ q, k = q + 5 := ⟨k - 5, by omega⟩
    obtain ⟨hiE, eE, dE'⟩ := drop_at dE
    simp only [runL] at dG
    obtain ⟨hiG, eG, dG'⟩ := drop_at dG
    obtain ⟨hkT, eT, dT'⟩ := drop_at dT
    have hy := hf y (List.mem_cons_self ..)
    have he : okE 1 y.f1 := .inl ⟨rfl, (of_decide_eq_true h).2.1⟩
    have hinv := inv_wheel hr hx ht hi (f := y.f0) (n := y.f1) h hb
    have hst : stT ms (doT s j m l o ms t ⟨1, y.f1⟩) := do_state hr ht he
    have hrec := ih k (i + 1) (kk + 1) _ dE' dG' dT' hst hinv (by omega) (by omega) (fun z hz => hf z (List.mem_cons_of_mem _ hz)) (by omega)
    simp only [laws_FnTrue.l0]
    rw [if_pos (by omega), if_pos (by omega), if_pos (by omega), rdEv E i hiE, eE]
    dsimp only
    rw [if_pos rfl, if_pos (by omega), if_pos (by omega), rdT T kk hkT, eT, w64 (a := x + y.f0) (by omega), w64 (a := (kk : Int) + 1) (by omega)]
    rw [show ((kk + 1 : Nat) : Int) = (kk : Int) + 1 by omega, show ((i + 1 : Nat) : Int) = (i : Int) + 1 by omega] at hrec
    exact true_check hr h1 T G E hE lg hlg (x + y.f0) (by omega) ((kk : Int) + 1) i hiE ms _ hst hinv hiG eG k _ hrec (by omega)
  | mark x ts es n hn hnear r ih =>
    intro k i kk t dE dG dT ht hi hx hx2 hf hk
    simp only [List.length_cons] at hk
    obtain ⟨k, rfl⟩ : ∃ q, k = q + 5 := ⟨k - 5, by omega⟩
    obtain ⟨hiE, eE, dE'⟩ := drop_at dE
    simp only [runL] at dG
    obtain ⟨hiG, eG, dG'⟩ := drop_at dG
    have hq := stateB_of ht
    have he : okE 2 (rd_T37 ms (n : Int)).f0 := .inr (.inl ⟨rfl, (okAt_range (okAt_of hq.1 hn)).1⟩)
    have hinv := inv_mark hr (l := l) (o := o) ⟨hx, by omega⟩ ht hi n hn hnear
    have hst : stT ms (doT s j m l o ms t ⟨2, (rd_T37 ms (n : Int)).f0⟩) := do_state hr ht he
    have hrec := ih k (i + 1) kk _ dE' dG' dT hst hinv hx hx2 hf (by omega)
    simp only [laws_FnTrue.l0]
    rw [if_pos (by omega), if_pos (by omega), if_pos (by omega), rdEv E i hiE, eE]
    dsimp only
    rw [if_neg (by decide)]
    rw [show ((i + 1 : Nat) : Int) = (i : Int) + 1 by omega] at hrec
    exact true_check hr h1 T G E hE lg hlg x (by omega) (kk : Int) i hiE ms _ hst hinv hiG eG k _ hrec (by omega)
theorem wEvents_loop (l : List S34) (hn : l.length ≤ 9000000000000000) (d : Nat) : ∀ (k i : Nat), i + d = l.length → d < k → laws_wEvents.l0 k l l (l.length : Int) (i : Int) = some true := by
  induction d with
  | zero =>
    intro k i hi hk
    obtain ⟨k, rfl⟩ : ∃ m, k = m + 1 := ⟨k - 1, by omega⟩
    simp only [laws_wEvents.l0]
    rw [if_neg (by omega)]
  | succ d ih =>
    intro k i hi hk
    obtain ⟨k, rfl⟩ : ∃ m, k = m + 1 := ⟨k - 1, by omega⟩
    simp only [laws_wEvents.l0, beq_self_eq_true, Bool.not_true, Bool.or_false, Bool.false_eq_true, if_false]
    rw [if_pos (by omega), if_pos (by omega), if_pos (by omega), if_pos (by omega), w64 (a := (i : Int) + 1) (by omega)]
    have := ih k (i + 1) (by omega) (by omega)
    rwa [show ((i + 1 : Nat) : Int) = (i : Int) + 1 by omega] at this
theorem FnTrue_step (l0 l1 : List Int) (h0 : ∀ x ∈ l0, (Lit.int .u8 x).wf = true) (h1 : ∀ x ∈ l1, (Lit.int .u8 x).wf = true) (k : Nat) (hk : 400000 ≤ k) (q : Bool) : laws_FnTrue.j0 (k + 3) l0 l1 q = some true := by
  simp only [laws_FnTrue.j0]
  cases q with
  | true => rfl
  | false =>
    rw [if_neg (by decide)]
    obtain ⟨s, j, m, lg, lo, ms, at_, ts, rs, e, ⟨r1, r2, r3, r4, r5⟩, hm, ha, ht, htk, hrs⟩ := trips_ok h0 (k := k + 2) (by omega)
    obtain ⟨v0, y0, z0⟩ := wByte_ok h1 0 (by omega)
    obtain ⟨v1, y1, z1⟩ := wByte_ok h1 1 (by omega)
    obtain ⟨v2, y2, z2⟩ := wByte_ok h1 2 (by omega)
    have hr : okR s j m lg lo := by omega
    have hml := hm.1
    have hms := drawn_marks hm
    have hsq : ms.length * (ms.length + 3) ≤ 7 * 10 := Nat.mul_le_mul (by omega) (by omega)
    have hall : ts.all (tOk s j) = true := by
      rw [List.all_eq_true]
      exact fun t h => (htk t h).1
    obtain ⟨es, ee, hT, hel⟩ := felt_told (s := s) (j := j) (m := m) ms hml ts rs at_ [] hrs (by omega) htk (by simp; omega)
    rw [List.nil_append] at ee
    have hV : feltV s j m lg lo ms at_ ts rs = es := by
      unfold feltV
      rw [if_pos ⟨hr, hms, by omega, by omega, hrs⟩]
      exact ee
    have hb : okB (at_ - v0) (at_ + v1) := by omega
    have hR : runV s j m lg lo ms (at_ - v0) (at_ + v1) es = runL s j m lg lo ms (true, at_ - v0, at_ + v1, 0, -1, 0) es := by
      unfold runV
      rw [if_pos ⟨hr, hms, hb, by omega⟩, runGo_runL s j m lg lo ms es _ _ (told_ok hms hT), List.nil_append]
    simp only [e, Option.bind_some]
    rw [impl_Fair_eq s j m lg lo ts (by omega) (by omega), hall, decide_eq_true hr, decide_eq_true (show ts.length ≤ 2000 by omega)]
    simp only [Option.bind_some, Bool.and_self, if_true, y0, y1]
    rw [impl_Felt_eq s j m lg lo ms at_ ts rs (by omega) (by omega) (by omega), hV]
    simp only [Option.bind_some]
    rw [w64 (a := at_ - v0) (by omega), w64 (a := at_ + v1) (by omega), impl_Run_eq s j m lg lo ms _ _ es (by omega), hR, spec_Felt_eq s j m lg lo ms (by omega) at_ ts rs (by omega) (by omega) (by omega), hV]
    simp only [Option.bind_some, laws_wEvents.f, if_true]
    have hwE : laws_wEvents.l0 (k + 2) es es (es.length : Int) 0 = some true := wEvents_loop es (by omega) es.length (k + 2) 0 (by omega) (by omega)
    rw [hwE]
    simp only [Option.bind_some, if_true]
    have hl := runL_len s j m lg lo ms es (true, at_ - v0, at_ + v1, 0, -1, 0)
    rw [hl]
    simp only [bne_self_eq_false, laws_FnTrue.j1, Bool.false_eq_true, if_false, y2, Option.bind_some]
    rw [w64 (a := 2 * lo) (by omega), w64 (a := 2 * lo + 1) (by omega), if_neg (by omega), w64 (a := lg - lo) (by omega), Int.tmod_eq_emod_of_nonneg z2.1]
    have hi0 := Int.emod_nonneg v2 (show 2 * lo + 1 ≠ 0 by omega)
    have hi1 := Int.emod_lt_of_pos v2 (show 0 < 2 * lo + 1 by omega)
    generalize v2 % (2 * lo + 1) = w at hi0 hi1
    rw [w64 (a := lg - lo + w) (by omega)]
    have fin : ∀ lon : Int, lg - lo ≤ lon ∧ lon ≤ lg + lo ∧ 1 ≤ lon → laws_FnTrue.j2 (k + 1) l1 ts es (runL s j m lg lo ms (true, at_ - v0, at_ + v1, 0, -1, 0) es) at_ 0 lon s j m lg lo = some true := by
      intro lon hlon
      simp only [laws_FnTrue.j2]
      exact true_loop hr h1 ms ts (by omega) _ es (by omega) lon hlon hT k 0 0 (true, at_ - v0, at_ + v1, 0, -1, 0) rfl rfl rfl (st0 hms hb) ⟨rfl, by dsimp only; omega, by dsimp only; omega, rfl⟩ (by omega) (by omega) (fun y hy => (htk y hy).2) (by omega)
    by_cases g : lg - lo + w < 1
    · rw [if_pos g]
      exact fin 1 (by omega)
    · rw [if_neg g]
      exact fin _ (by omega)
theorem FnTrue (l0 l1 : List Int) (_ : l0.length * 1 ≤ 140737488351232) (h0 : ∀ x ∈ l0, (Lit.int .u8 x).wf = true) (_ : l1.length * 1 ≤ 140737488351232) (h1 : ∀ x ∈ l1, (Lit.int .u8 x).wf = true) : ∃ k, laws_FnTrue.f k l0 l1 = some true := by
  obtain ⟨k, hk⟩ : ∃ k, 400000 ≤ k := ⟨400000, Nat.le_refl _⟩
  refine ⟨k + 3, ?_⟩
  unfold laws_FnTrue.f
  split <;> exact FnTrue_step l0 l1 h0 h1 k hk _
end Go.Proofs.Ytommdabkkgcgbaa.Pure
