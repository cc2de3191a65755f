/- The plain law of laws.FnExactFair: what the printed functions compute answers true at every input, in plain Lean, without Go and memory. Its conditions: each number is an int64, each slice takes fewer than 2^47 bytes. -/
import Derived.Test.YtelocbgcoebbmaaPFnExactFairx2
namespace Go.Proofs.Ytelocbgcoebbmaa.Pure
open Go.RowKit Go.Proofs.Ytelocbgcoebbmaa.PFnExactFair Go.Proofs.YtelocbgcoebbmaaW.PrintWords Go.Proofs.YtelocbgcoebbmaaW.PrintLast Go.Proofs.YtelocbgcoebbmaaW.PrintMore
set_option linter.unusedVariables false
set_option linter.unusedSimpArgs false
theorem sd {p : Prop} [Decidable p] {b : Bool} (h : b = true ↔ p) : some b = some (decide p) := by
  cases b <;> simp_all
abbrev okR (s j m l o : Int) : Prop := 0 ≤ s ∧ s ≤ 500 ∧ 0 ≤ j ∧ j ≤ 1000 ∧ 0 ≤ m ∧ m ≤ 10000 ∧ 1 ≤ l ∧ l ≤ 1000000 ∧ 0 ≤ o ∧ o ≤ 10000
abbrev okB (a b : Int) : Prop := -100000000 ≤ a ∧ a ≤ b ∧ b ≤ 100000000
abbrev okE (op n : Int) : Prop := (op = 1 ∧ 0 ≤ n ∧ n ≤ 100000) ∨ (op = 2 ∧ 1 ≤ n ∧ n ≤ 1000000000) ∨ ((op = 3 ∨ op = 4) ∧ n = 0)
theorem wf64 {a : Int} (h : (Lit.int .i64 a).wf = true) : -9223372036854775808 ≤ a ∧ a ≤ 9223372036854775807 := by
  have h' := h
  simp [Lit.wf, IntKind.min, IntKind.max, IntKind.signed, IntKind.bits] at h'
  omega
theorem spec_l1in_eq (x a b : Int) : spec_l1in.f x a b = some (decide (a ≤ x ∧ x ≤ b)) := by
  unfold spec_l1in.f
  split <;> (apply sd; simp only [decide_eq_true_eq, Bool.false_eq_true, false_iff]; omega)
theorem impl_in_eq (x a b : Int) : impl_in.f x a b = some (decide (a ≤ x ∧ x ≤ b)) := by
  unfold impl_in.f
  split <;> (apply sd; simp only [decide_eq_true_eq, Bool.false_eq_true, false_iff]; omega)
theorem spec_RulesOk_eq (s j m l o : Int) : spec_RulesOk.f s j m l o = some (decide (okR s j m l o)) := by
  simp only [spec_RulesOk.f, spec_l1in_eq, Option.bind_some, decide_eq_true_eq]
  (repeat' split) <;> (apply sd; simp only [decide_eq_true_eq, Bool.false_eq_true, false_iff]; omega)
theorem impl_RulesOk_eq (s j m l o : Int) : impl_RulesOk.f s j m l o = some (decide (okR s j m l o)) := by
  simp only [impl_RulesOk.f, impl_in_eq, Option.bind_some, decide_eq_true_eq]
  (repeat' split) <;> (apply sd; simp only [decide_eq_true_eq, Bool.false_eq_true, false_iff]; omega)
theorem w64 {a : Int} (h : -9223372036854775808 ≤ a ∧ a ≤ 9223372036854775807) : wrap64 a = a := by unfold wrap64; omega
/-- The least and the most that wheels can have come, in closed form. -/
def lst (s j c : Int) : Int := if 0 < c - j then (1000 * (c - j) + 999 + s) / (1000 + s) else 0
def mst (s j c : Int) : Int := 1000 * (c + j) / (1000 - s)
def stay (x : Int) : Int := max (-100000000) (min x 100000000)
theorem lst_le_iff {s j c x : Int} (hs : 0 ≤ s) (hx : 0 ≤ x) : lst s j c ≤ x ↔ 1000 * (c - j) ≤ 1000 * x + s * x := by
  have hp : 0 ≤ s * x := Int.mul_nonneg hs hx
  unfold lst
  split
  · rw [← Int.lt_add_one_iff, Int.ediv_lt_iff_lt_mul (by omega)]
    have e : (x + 1) * (1000 + s) = 1000 * x + s * x + 1000 + s := by
      rw [Int.add_mul, Int.mul_add, Int.mul_comm x 1000, Int.mul_comm x s]; omega
    rw [e]
    omega
  · constructor
    · intro _; omega
    · intro _; exact hx
theorem lst_nonneg {s j c : Int} (hs : 0 ≤ s) : 0 ≤ lst s j c := by
  unfold lst
  split
  · exact Int.ediv_nonneg (by omega) (by omega)
  · omega
theorem le_mst_iff {s j c x : Int} (hs : s ≤ 500) : x ≤ mst s j c ↔ 1000 * x - s * x ≤ 1000 * (c + j) := by
  unfold mst
  rw [Int.le_ediv_iff_mul_le (by omega)]
  have e : x * (1000 - s) = 1000 * x - s * x := by rw [Int.mul_sub, Int.mul_comm x 1000, Int.mul_comm x s]
  rw [e]
theorem mst_le {s j c : Int} (h0 : 0 ≤ s) (hs : s ≤ 500) (hj : 0 ≤ j ∧ j ≤ 1000) (hc : 0 ≤ c ∧ c ≤ 100000) : mst s j c ≤ 202000 := by
  unfold mst
  rw [← Int.lt_add_one_iff, Int.ediv_lt_iff_lt_mul (by omega)]
  omega
theorem lst_le {s j c : Int} (h0 : 0 ≤ s) (hj : 0 ≤ j) (hc : 0 ≤ c) : lst s j c ≤ c := by
  have hp : 0 ≤ s * c := Int.mul_nonneg h0 hc
  rw [lst_le_iff h0 hc]; omega
theorem le_mst {s j c : Int} (h0 : 0 ≤ s) (hs : s ≤ 500) (hj : 0 ≤ j) (hc : 0 ≤ c) : c ≤ mst s j c := by
  have hp : 0 ≤ s * c := Int.mul_nonneg h0 hc
  rw [le_mst_iff hs]; omega
theorem sx_bd {s x : Int} (h0 : 0 ≤ s) (hs : s ≤ 500) (hx : 0 ≤ x) (hx2 : x ≤ 300000) : 0 ≤ s * x ∧ s * x ≤ 150000000 := by
  refine ⟨Int.mul_nonneg h0 hx, ?_⟩
  have := Int.mul_le_mul hs hx2 hx (by omega)
  omega
abbrev fairP (s j x c : Int) : Prop := 1000 * (x - c) ≤ s * x + 1000 * j ∧ 1000 * (c - x) ≤ s * x + 1000 * j
theorem spec_l1fair_eq {s j m l o x c : Int} (h0 : 0 ≤ s) (hs : s ≤ 500) (hj : 0 ≤ j ∧ j ≤ 1000) (hx : 0 ≤ x) (hx2 : x ≤ 300000) (hc : 0 ≤ c ∧ c ≤ 100000) :
    spec_l1fair.f s j m l o x c = some (decide (fairP s j x c)) := by
  have hp := sx_bd h0 hs hx hx2
  unfold spec_l1fair.f fairP
  generalize s * x = p at hp ⊢
  rw [w64 (a := x - c) (by omega), w64 (a := -(x - c)) (by omega), w64 (a := 1000 * -(x - c)) (by omega), w64 (a := 1000 * (x - c)) (by omega), w64 (a := p) (by omega), w64 (a := 1000 * j) (by omega), w64 (a := p + 1000 * j) (by omega)]
  split <;> (apply sd; simp only [decide_eq_true_eq]; omega)
theorem impl_may_eq {s j m l o x c : Int} (h0 : 0 ≤ s) (hs : s ≤ 500) (hj : 0 ≤ j ∧ j ≤ 1000) (hx : 0 ≤ x) (hx2 : x ≤ 300000) (hc : 0 ≤ c ∧ c ≤ 100000) :
    impl_may.f s j m l o x c = some (decide (fairP s j x c)) := by
  have hp := sx_bd h0 hs hx hx2
  unfold impl_may.f fairP mx
  generalize s * x = p at hp ⊢
  rw [w64 (a := x - c) (by omega), w64 (a := c - x) (by omega), w64 (a := p) (by omega), w64 (a := 1000 * j) (by omega), w64 (a := p + 1000 * j) (by omega), w64 (a := 1000 * (if x - c < c - x then c - x else x - c)) (by split <;> omega)]
  apply sd
  simp only [decide_eq_true_eq]
  split <;> omega
/-- What Wheel answers. -/
def wheelV (s j m l o a b c : Int) : Int × Int := if okR s j m l o ∧ okB a b ∧ (0 ≤ c ∧ c ≤ 100000) then (stay (a + lst s j c), stay (b + mst s j c)) else (0, 0)
/-- What Read answers. -/
def readV (s j m l o a b x : Int) : Int × Int :=
  if okR s j m l o ∧ okB a b ∧ (0 ≤ x ∧ x ≤ 100000000) then
    (if a ≤ stay (x + m) ∧ stay (x - m) ≤ b then (max a (stay (x - m)), min b (stay (x + m))) else (min a (stay (x - m)), max b (stay (x + m)))) else (0, 0)
theorem rd_True (xs : List S60) (i : Nat) (h : i < xs.length) : rd_T60 xs (i : Int) = xs[i] := by
  simp [rd_T60, List.getD_eq_getElem?_getD, h]
theorem rdl_True (xs : List S64) (i : Nat) (h : i < xs.length) : rd_T64 xs (i : Int) = xs[i] := by
  simp [rd_T64, List.getD_eq_getElem?_getD, h]
/-- The copy of an element. -/
def cTrue (x : S64) : S60 := ⟨x.f0, x.f1⟩
theorem toTrueS_loop (l : List S64) (hn : l.length ≤ 9000000000000000) (d : Nat) : ∀ (k i : Nat), i + d = l.length → d < k → laws_toTrueS.l0 k l ((l.take i).map cTrue ++ List.replicate d z60) (i : Int) = some (l.map cTrue) := by
  induction d with
  | zero =>
    intro k i hi hk
    obtain ⟨k, rfl⟩ : ∃ m, k = m + 1 := ⟨k - 1, by omega⟩
    simp only [laws_toTrueS.l0]
    rw [if_neg (by omega), List.take_of_length_le (by omega)]
    simp
  | succ d ih =>
    intro k i hi hk
    obtain ⟨k, rfl⟩ : ∃ m, k = m + 1 := ⟨k - 1, by omega⟩
    simp only [laws_toTrueS.l0]
    rw [if_pos (by omega), if_pos (by omega), rdl_True l i (by omega)]
    simp only [laws_toTrue.f, Option.bind_some]
    have hlen : ((l.take i).map cTrue).length = i := by simp; omega
    rw [if_pos (by simp; omega), w64 (a := (i : Int) + 1) (by omega)]
    have e : ((l.take i).map cTrue ++ List.replicate (d + 1) z60).set ((i : Int)).toNat ⟨l[i].f0, l[i].f1⟩ = (l.take (i + 1)).map cTrue ++ List.replicate d z60 := by
      rw [List.set_append, Int.toNat_natCast, if_neg (by omega), hlen, Nat.sub_self, List.replicate_succ, List.set_cons_zero, List.take_succ_eq_append_getElem (by omega), List.map_append, List.append_assoc]
      rfl
    rw [e]
    exact ih k (i + 1) (by omega) (by omega)
theorem toTrueS_eq (l : List S64) (hn : l.length ≤ 1048576) {k : Nat} (hk : l.length < k) : laws_toTrueS.f k l = some (l.map cTrue) := by
  unfold laws_toTrueS.f
  rw [if_pos (by omega), if_pos (by omega), Int.toNat_natCast]
  exact toTrueS_loop l (by omega) l.length k 0 (by omega) hk
theorem eqTrueS_loop (l : List S60) (hn : l.length ≤ 9000000000000000) (d : Nat) : ∀ (k i : Nat), i + d = l.length → d < k → laws_eqTrueS.l0 k l l (i : Int) = some true := by
  induction d with
  | zero =>
    intro k i hi hk
    obtain ⟨k, rfl⟩ : ∃ m, k = m + 1 := ⟨k - 1, by omega⟩
    simp only [laws_eqTrueS.l0]
    rw [if_neg (by omega)]
  | succ d ih =>
    intro k i hi hk
    obtain ⟨k, rfl⟩ : ∃ m, k = m + 1 := ⟨k - 1, by omega⟩
    simp only [laws_eqTrueS.l0]
    rw [if_pos (by omega), if_pos (by omega), if_pos (by omega), w64 (a := (i : Int) + 1) (by omega)]
    simp only [laws_eqTrue.f, if_true, Option.bind_some]
    exact ih k (i + 1) (by omega) (by omega)
theorem eqTrueS_refl (l : List S60) (hn : l.length ≤ 9000000000000000) {k : Nat} (hk : l.length < k) : laws_eqTrueS.f k l l = some true := by
  unfold laws_eqTrueS.f
  rw [if_pos rfl]
  exact eqTrueS_loop l hn l.length k 0 (by omega) hk
theorem szTrueS_eq (l : List S64) (hn : l.length ≤ 9000000000000000) (a : Int) (ha : 0 ≤ a ∧ a ≤ 1048576) : laws_szTrueS.f l a = some (if (l.length : Int) ≤ a then a - l.length else -1) := by
  unfold laws_szTrueS.f
  rw [w64 (a := a - (l.length : Int)) (by omega)]
  (repeat' split) <;> first | rfl | omega
/-- A tick in which wheels may count so. -/
def tOk (s j : Int) (x : S60) : Bool := decide ((0 ≤ x.f0 ∧ x.f0 ≤ 100000) ∧ (0 ≤ x.f1 ∧ x.f1 ≤ 100000) ∧ fairP s j x.f0 x.f1)
theorem spec_l4true_eq (a b : Int) : spec_l4true.f a b = some (decide ((0 ≤ a ∧ a ≤ 100000) ∧ (0 ≤ b ∧ b ≤ 100000))) := by
  simp only [spec_l4true.f, spec_l1in_eq, Option.bind_some, decide_eq_true_eq]
  split <;> (apply sd; simp only [decide_eq_true_eq, Bool.false_eq_true, false_iff]; omega)
theorem spec_Fair_loop {s j m l o : Int} (h0 : 0 ≤ s) (hs : s ≤ 500) (hj : 0 ≤ j ∧ j ≤ 1000) (ts : List S60) (hn : ts.length ≤ 9000000000000000) (d : Nat) :
    ∀ (k i : Nat), i + d = ts.length → d < k → spec_Fair.l0 k ts (ts.length : Int) (i : Int) s j m l o = some ((ts.drop i).all (tOk s j)) := by
  induction d with
  | zero =>
    intro k i hi hk
    obtain ⟨k, rfl⟩ : ∃ m, k = m + 1 := ⟨k - 1, by omega⟩
    simp only [spec_Fair.l0]
    rw [if_neg (by omega), List.drop_of_length_le (by omega)]
    rfl
  | succ d ih =>
    intro k i hi hk
    obtain ⟨k, rfl⟩ : ∃ m, k = m + 1 := ⟨k - 1, by omega⟩
    simp only [spec_Fair.l0]
    rw [if_pos (by omega), if_pos (by omega), if_pos (by omega), rd_True ts i (by omega), w64 (a := (i : Int) + 1) (by omega), spec_l4true_eq, List.drop_eq_getElem_cons (by omega), List.all_cons]
    have hr := ih k (i + 1) (by omega) (by omega)
    generalize ts[i] = x at *
    simp only [Option.bind_some, decide_eq_true_eq, tOk]
    by_cases h1 : (0 ≤ x.f0 ∧ x.f0 ≤ 100000) ∧ (0 ≤ x.f1 ∧ x.f1 ≤ 100000)
    · rw [if_pos h1, spec_l1fair_eq h0 hs hj h1.1.1 (by omega) h1.2]
      simp only [Option.bind_some, decide_eq_true_eq]
      by_cases h2 : fairP s j x.f0 x.f1
      · rw [if_pos h2, decide_eq_true (show (0 ≤ x.f0 ∧ x.f0 ≤ 100000) ∧ (0 ≤ x.f1 ∧ x.f1 ≤ 100000) ∧ fairP s j x.f0 x.f1 from ⟨h1.1, h1.2, h2⟩), Bool.true_and]
        exact hr
      · rw [if_neg h2, decide_eq_false (show ¬ ((0 ≤ x.f0 ∧ x.f0 ≤ 100000) ∧ (0 ≤ x.f1 ∧ x.f1 ≤ 100000) ∧ fairP s j x.f0 x.f1) from fun h => h2 h.2.2), Bool.false_and]
    · rw [if_neg h1, decide_eq_false (show ¬ ((0 ≤ x.f0 ∧ x.f0 ≤ 100000) ∧ (0 ≤ x.f1 ∧ x.f1 ≤ 100000) ∧ fairP s j x.f0 x.f1) from fun h => h1 ⟨h.1, h.2.1⟩), Bool.false_and]
theorem spec_Fair_eq (s j m l o : Int) (ts : List S60) (hn : ts.length ≤ 9000000000000000) {k : Nat} (hk : ts.length + 1 < k) :
    spec_Fair.f k s j m l o ts = some (decide (okR s j m l o) && decide (ts.length ≤ 2000) && ts.all (tOk s j)) := by
  obtain ⟨k, rfl⟩ : ∃ m, k = m + 1 := ⟨k - 1, by omega⟩
  simp only [spec_Fair.f, spec_RulesOk_eq, Option.bind_some, decide_eq_true_eq, spec_Fair.j0]
  by_cases hr : okR s j m l o
  · rw [if_pos hr, decide_eq_true hr]
    by_cases h2 : ts.length ≤ 2000
    · rw [if_neg (by omega), decide_eq_true h2]
      have := spec_Fair_loop (m := m) (l := l) (o := o) (s := s) (j := j) (by omega) (by omega) (by omega) ts hn ts.length k 0 (by omega) (by omega)
      simpa using this
    · rw [if_pos (by omega), decide_eq_false h2]
      rfl
  · rw [if_neg hr, decide_eq_false hr]
    rfl
theorem impl_Fair_loop {s j m l o : Int} (h0 : 0 ≤ s) (hs : s ≤ 500) (hj : 0 ≤ j ∧ j ≤ 1000) (ts : List S60) (hn : ts.length ≤ 9000000000000000) (d : Nat) :
    ∀ (k i : Nat), i + d = ts.length → d < k → impl_Fair.l0 k ts (ts.length : Int) (i : Int) s j m l o = some ((ts.drop i).all (tOk s j)) := by
  induction d with
  | zero =>
    intro k i hi hk
    obtain ⟨k, rfl⟩ : ∃ m, k = m + 1 := ⟨k - 1, by omega⟩
    simp only [impl_Fair.l0]
    rw [if_neg (by omega), List.drop_of_length_le (by omega)]
    rfl
  | succ d ih =>
    intro k i hi hk
    obtain ⟨k, rfl⟩ : ∃ m, k = m + 1 := ⟨k - 1, by omega⟩
    simp only [impl_Fair.l0]
    rw [if_pos (by omega), if_pos (by omega), if_pos (by omega), rd_True ts i (by omega), w64 (a := (i : Int) + 1) (by omega), impl_in_eq, impl_in_eq, List.drop_eq_getElem_cons (by omega), List.all_cons]
    have hr := ih k (i + 1) (by omega) (by omega)
    generalize ts[i] = x at *
    simp only [Option.bind_some, decide_eq_true_eq, tOk]
    by_cases h1 : 0 ≤ x.f0 ∧ x.f0 ≤ 100000
    · rw [if_pos h1]
      by_cases h3 : 0 ≤ x.f1 ∧ x.f1 ≤ 100000
      · rw [if_pos h3, impl_may_eq h0 hs hj h1.1 (by omega) h3]
        simp only [Option.bind_some, decide_eq_true_eq]
        by_cases h2 : fairP s j x.f0 x.f1
        · rw [if_pos h2, decide_eq_true (show (0 ≤ x.f0 ∧ x.f0 ≤ 100000) ∧ (0 ≤ x.f1 ∧ x.f1 ≤ 100000) ∧ fairP s j x.f0 x.f1 from ⟨h1, h3, h2⟩), Bool.true_and]
          exact hr
        · rw [if_neg h2, decide_eq_false (show ¬ ((0 ≤ x.f0 ∧ x.f0 ≤ 100000) ∧ (0 ≤ x.f1 ∧ x.f1 ≤ 100000) ∧ fairP s j x.f0 x.f1) from fun h => h2 h.2.2), Bool.false_and]
      · rw [if_neg h3, decide_eq_false (show ¬ ((0 ≤ x.f0 ∧ x.f0 ≤ 100000) ∧ (0 ≤ x.f1 ∧ x.f1 ≤ 100000) ∧ fairP s j x.f0 x.f1) from fun h => h3 h.2.1), Bool.false_and]
    · rw [if_neg h1, decide_eq_false (show ¬ ((0 ≤ x.f0 ∧ x.f0 ≤ 100000) ∧ (0 ≤ x.f1 ∧ x.f1 ≤ 100000) ∧ fairP s j x.f0 x.f1) from fun h => h1 h.1), Bool.false_and]
theorem impl_Fair_eq (s j m l o : Int) (ts : List S60) (hn : ts.length ≤ 9000000000000000) {k : Nat} (hk : ts.length + 1 < k) :
    impl_Fair.f k s j m l o ts = some (decide (okR s j m l o) && decide (ts.length ≤ 2000) && ts.all (tOk s j)) := by
  obtain ⟨k, rfl⟩ : ∃ m, k = m + 1 := ⟨k - 1, by omega⟩
  simp only [impl_Fair.f, impl_RulesOk_eq, Option.bind_some, decide_eq_true_eq, impl_Fair.j0]
  by_cases hr : okR s j m l o
  · rw [if_pos hr, decide_eq_true hr]
    by_cases h2 : ts.length ≤ 2000
    · rw [if_neg (by omega), decide_eq_true h2]
      have := impl_Fair_loop (m := m) (l := l) (o := o) (s := s) (j := j) (by omega) (by omega) (by omega) ts hn ts.length k 0 (by omega) (by omega)
      simpa using this
    · rw [if_pos (by omega), decide_eq_false h2]
      rfl
  · rw [if_neg hr, decide_eq_false hr]
    rfl
theorem FnExactFair (s j m l o : Int) (ts : List S64) (_ : (Lit.int .i64 s).wf = true) (_ : (Lit.int .i64 j).wf = true) (_ : (Lit.int .i64 m).wf = true) (_ : (Lit.int .i64 l).wf = true) (_ : (Lit.int .i64 o).wf = true)
    (hy : ts.length * 16 ≤ 140737488351232) (_ : ∀ x ∈ ts, (Lit.int .i64 x.f0).wf = true ∧ (Lit.int .i64 x.f1).wf = true) : ∃ k, laws_FnExactFair.f k s j m l o ts = some true := by
  refine ⟨1048580, ?_⟩
  unfold laws_FnExactFair.f
  rw [szTrueS_eq ts (by omega) 1048576 (by omega)]
  simp only [Option.bind_some]
  by_cases h : (ts.length : Int) ≤ 1048576
  · rw [if_pos h, if_neg (by omega), toTrueS_eq ts (by omega) (by omega)]
    simp only [laws_toRules.f, Option.bind_some]
    rw [spec_Fair_eq s j m l o _ (by simp; omega) (by simp; omega), impl_Fair_eq s j m l o _ (by simp; omega) (by simp; omega)]
    simp only [Option.bind_some, bne_self_eq_false, Bool.false_eq_true, if_false]
    rw [eqTrueS_refl _ (by simp; omega) (by simp; omega)]
    rfl
  · rw [if_neg h]
    rfl
end Go.Proofs.Ytelocbgcoebbmaa.Pure
