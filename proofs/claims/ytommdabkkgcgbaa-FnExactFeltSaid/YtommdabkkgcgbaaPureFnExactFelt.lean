/- The plain law of laws.FnExactFelt: what the printed functions compute answers true at every input, in plain Lean, without Go and memory. Its conditions: each number is an int64, each slice takes fewer than 2^47 bytes. -/
import Derived.Test.YtommdabkkgcgbaaQFnExactFeltx8
namespace Go.Proofs.Ytommdabkkgcgbaa.Pure
open Go.RowKit Go.Proofs.Ytommdabkkgcgbaa.QFnExactFelt Go.Proofs.YtommdabkkgcgbaaW.PrintWords Go.Proofs.YtommdabkkgcgbaaW.PrintLast Go.Proofs.YtommdabkkgcgbaaW.PrintMore
set_option linter.unusedVariables false
set_option linter.unusedSimpArgs false
theorem sd {p : Prop} [Decidable p] {b : Bool} (h : b = true ↔ p) : some b = some (decide p) := by
  cases b <;> simp_all
abbrev okR (s j m l o : Int) : Prop := 0 ≤ s ∧ s ≤ 500 ∧ 0 ≤ j ∧ j ≤ 1000 ∧ 0 ≤ m ∧ m ≤ 10000 ∧ 1 ≤ l ∧ l ≤ 1000000 ∧ 0 ≤ o ∧ o ≤ 10000
abbrev okB (a b : Int) : Prop := -100000000 ≤ a ∧ a ≤ b ∧ b ≤ 100000000
abbrev okE (op n : Int) : Prop := (op = 1 ∧ 0 ≤ n ∧ n ≤ 100000) ∨ (op = 2 ∧ 1 ≤ n ∧ n ≤ 1000000000) ∨ ((op = 3 ∨ op = 4) ∧ n = 0)
theorem wf64 {a : Int} (h : (Lit.int .i64 a).wf = true) : -9223372036854775808 ≤ a ∧ a ≤ 9223372036854775807 := by
  have h' := h
  simp [Lit.wf, IntKind.min, IntKind.max, IntKind.signed, IntKind.bits] at h'
  omega
theorem spec_l1in_eq (x a b : Int) : spec_l1in.f x a b = some (decide (a ≤ x ∧ x ≤ b)) := by
  unfold spec_l1in.f
  split <;> (apply sd; simp only [decide_eq_true_eq, Bool.false_eq_true, false_iff]; omega)
theorem impl_in_eq (x a b : Int) : impl_in.f x a b = some (decide (a ≤ x ∧ x ≤ b)) := by
  unfold impl_in.f
  split <;> (apply sd; simp only [decide_eq_true_eq, Bool.false_eq_true, false_iff]; omega)
theorem spec_RulesOk_eq (s j m l o : Int) : spec_RulesOk.f s j m l o = some (decide (okR s j m l o)) := by
  simp only [spec_RulesOk.f, spec_l1in_eq, Option.bind_some, decide_eq_true_eq]
  (repeat' split) <;> (apply sd; simp only [decide_eq_true_eq, Bool.false_eq_true, false_iff]; omega)
theorem impl_RulesOk_eq (s j m l o : Int) : impl_RulesOk.f s j m l o = some (decide (okR s j m l o)) := by
  simp only [impl_RulesOk.f, impl_in_eq, Option.bind_some, decide_eq_true_eq]
  (repeat' split) <;> (apply sd; simp only [decide_eq_true_eq, Bool.false_eq_true, false_iff]; omega)
theorem w64 {a : Int} (h : -9223372036854775808 ≤ a ∧ a ≤ 9223372036854775807) : wrap64 a = a := by unfold wrap64; omega
/-- The least and the most that wheels can have come, in closed form. -/
def lst (s j c : Int) : Int := if 0 < c - j then (1000 * (c - j) + 999 + s) / (1000 + s) else 0
def mst (s j c : Int) : Int := 1000 * (c + j) / (1000 - s)
def stay (x : Int) : Int := max (-100000000) (min x 100000000)
theorem lst_le_iff {s j c x : Int} (hs : 0 ≤ s) (hx : 0 ≤ x) : lst s j c ≤ x ↔ 1000 * (c - j) ≤ 1000 * x + s * x := by
  have hp : 0 ≤ s * x := Int.mul_nonneg hs hx
  unfold lst
  split
  · rw [← Int.lt_add_one_iff, Int.ediv_lt_iff_lt_mul (by omega)]
    have e : (x + 1) * (1000 + s) = 1000 * x + s * x + 1000 + s := by
      rw [Int.add_mul, Int.mul_add, Int.mul_comm x 1000, Int.mul_comm x s]; omega
    rw [e]
    omega
  · constructor
    · intro _; omega
    · intro _; exact hx
theorem lst_nonneg {s j c : Int} (hs : 0 ≤ s) : 0 ≤ lst s j c := by
  unfold lst
  split
  · exact Int.ediv_nonneg (by omega) (by omega)
  · omega
theorem le_mst_iff {s j c x : Int} (hs : s ≤ 500) : x ≤ mst s j c ↔ 1000 * x - s * x ≤ 1000 * (c + j) := by
  unfold mst
  rw [Int.le_ediv_iff_mul_le (by omega)]
  have e : x * (1000 - s) = 1000 * x - s * x := by rw [Int.mul_sub, Int.mul_comm x 1000, Int.mul_comm x s]
  rw [e]
theorem mst_le {s j c : Int} (h0 : 0 ≤ s) (hs : s ≤ 500) (hj : 0 ≤ j ∧ j ≤ 1000) (hc : 0 ≤ c ∧ c ≤ 100000) : mst s j c ≤ 202000 := by
  unfold mst
  rw [← Int.lt_add_one_iff, Int.ediv_lt_iff_lt_mul (by omega)]
  omega
theorem lst_le {s j c : Int} (h0 : 0 ≤ s) (hj : 0 ≤ j) (hc : 0 ≤ c) : lst s j c ≤ c := by
  have hp : 0 ≤ s * c := Int.mul_nonneg h0 hc
  rw [lst_le_iff h0 hc]; omega
theorem le_mst {s j c : Int} (h0 : 0 ≤ s) (hs : s ≤ 500) (hj : 0 ≤ j) (hc : 0 ≤ c) : c ≤ mst s j c := by
  have hp : 0 ≤ s * c := Int.mul_nonneg h0 hc
  rw [le_mst_iff hs]; omega
theorem sx_bd {s x : Int} (h0 : 0 ≤ s) (hs : s ≤ 500) (hx : 0 ≤ x) (hx2 : x ≤ 300000) : 0 ≤ s * x ∧ s * x ≤ 150000000 := by
  refine ⟨Int.mul_nonneg h0 hx, ?_⟩
  have := Int.mul_le_mul hs hx2 hx (by omega)
  omega
abbrev fairP (s j x c : Int) : Prop := 1000 * (x - c) ≤ s * x + 1000 * j ∧ 1000 * (c - x) ≤ s * x + 1000 * j
/-- What Wheel answers. -/
def wheelV (s j m l o a b c : Int) : Int × Int := if okR s j m l o ∧ okB a b ∧ (0 ≤ c ∧ c ≤ 100000) then (stay (a + lst s j c), stay (b + mst s j c)) else (0, 0)
/-- What Read answers. -/
def readV (s j m l o a b x : Int) : Int × Int :=
  if okR s j m l o ∧ okB a b ∧ (0 ≤ x ∧ x ≤ 100000000) then
    (if a ≤ stay (x + m) ∧ stay (x - m) ≤ b then (max a (stay (x - m)), min b (stay (x + m))) else (min a (stay (x - m)), max b (stay (x + m)))) else (0, 0)
theorem rd_True (xs : List S90) (i : Nat) (h : i < xs.length) : rd_T90 xs (i : Int) = xs[i] := by
  simp [rd_T90, List.getD_eq_getElem?_getD, h]
theorem rd_Mark (xs : List S37) (i : Nat) (h : i < xs.length) : rd_T37 xs (i : Int) = xs[i] := by
  simp [rd_T37, List.getD_eq_getElem?_getD, h]
theorem rd_Event (xs : List S34) (i : Nat) (h : i < xs.length) : rd_T34 xs (i : Int) = xs[i] := by
  simp [rd_T34, List.getD_eq_getElem?_getD, h]
theorem rdl_True (xs : List S119) (i : Nat) (h : i < xs.length) : rd_T119 xs (i : Int) = xs[i] := by
  simp [rd_T119, List.getD_eq_getElem?_getD, h]
/-- The copy of an element. -/
def cTrue (x : S119) : S90 := ⟨x.f0, x.f1⟩
theorem toTrueS_loop (l : List S119) (hn : l.length ≤ 9000000000000000) (d : Nat) : ∀ (k i : Nat), i + d = l.length → d < k → laws_toTrueS.l0 k l ((l.take i).map cTrue ++ List.replicate d z90) (i : Int) = some (l.map cTrue) := by
  induction d with
  | zero =>
    intro k i hi hk
    obtain ⟨k, rfl⟩ : ∃ m, k = m + 1 := ⟨k - 1, by omega⟩
    simp only [laws_toTrueS.l0]
    rw [if_neg (by omega), List.take_of_length_le (by omega)]
    simp
  | succ d ih =>
    intro k i hi hk
    obtain ⟨k, rfl⟩ : ∃ m, k = m + 1 := ⟨k - 1, by omega⟩
    simp only [laws_toTrueS.l0]
    rw [if_pos (by omega), if_pos (by omega), rdl_True l i (by omega)]
    simp only [laws_toTrue.f, Option.bind_some]
    have hlen : ((l.take i).map cTrue).length = i := by simp; omega
    rw [if_pos (by simp; omega), w64 (a := (i : Int) + 1) (by omega)]
    have e : ((l.take i).map cTrue ++ List.replicate (d + 1) z90).set ((i : Int)).toNat ⟨l[i].f0, l[i].f1⟩ = (l.take (i + 1)).map cTrue ++ List.replicate d z90 := by
      rw [List.set_append, Int.toNat_natCast, if_neg (by omega), hlen, Nat.sub_self, List.replicate_succ, List.set_cons_zero, List.take_succ_eq_append_getElem (by omega), List.map_append, List.append_assoc]
      rfl
    rw [e]
    exact ih k (i + 1) (by omega) (by omega)
theorem toTrueS_eq (l : List S119) (hn : l.length ≤ 1048576) {k : Nat} (hk : l.length < k) : laws_toTrueS.f k l = some (l.map cTrue) := by
  unfold laws_toTrueS.f
  rw [if_pos (by omega), if_pos (by omega), Int.toNat_natCast]
  exact toTrueS_loop l (by omega) l.length k 0 (by omega) hk
theorem rdl_Mark (xs : List S106) (i : Nat) (h : i < xs.length) : rd_T106 xs (i : Int) = xs[i] := by
  simp [rd_T106, List.getD_eq_getElem?_getD, h]
/-- The copy of an element. -/
def cMark (x : S106) : S37 := ⟨x.f0, x.f1⟩
theorem toMarkS_loop (l : List S106) (hn : l.length ≤ 9000000000000000) (d : Nat) : ∀ (k i : Nat), i + d = l.length → d < k → laws_toMarkS.l0 k l ((l.take i).map cMark ++ List.replicate d z37) (i : Int) = some (l.map cMark) := by
  induction d with
  | zero =>
    intro k i hi hk
    obtain ⟨k, rfl⟩ : ∃ m, k = m + 1 := ⟨k - 1, by omega⟩
    simp only [laws_toMarkS.l0]
    rw [if_neg (by omega), List.take_of_length_le (by omega)]
    simp
  | succ d ih =>
    intro k i hi hk
    obtain ⟨k, rfl⟩ : ∃ m, k = m + 1 := ⟨k - 1, by omega⟩
    simp only [laws_toMarkS.l0]
    rw [if_pos (by omega), if_pos (by omega), rdl_Mark l i (by omega)]
    simp only [laws_toMark.f, Option.bind_some]
    have hlen : ((l.take i).map cMark).length = i := by simp; omega
    rw [if_pos (by simp; omega), w64 (a := (i : Int) + 1) (by omega)]
    have e : ((l.take i).map cMark ++ List.replicate (d + 1) z37).set ((i : Int)).toNat ⟨l[i].f0, l[i].f1⟩ = (l.take (i + 1)).map cMark ++ List.replicate d z37 := by
      rw [List.set_append, Int.toNat_natCast, if_neg (by omega), hlen, Nat.sub_self, List.replicate_succ, List.set_cons_zero, List.take_succ_eq_append_getElem (by omega), List.map_append, List.append_assoc]
      rfl
    rw [e]
    exact ih k (i + 1) (by omega) (by omega)
theorem toMarkS_eq (l : List S106) (hn : l.length ≤ 1048576) {k : Nat} (hk : l.length < k) : laws_toMarkS.f k l = some (l.map cMark) := by
  unfold laws_toMarkS.f
  rw [if_pos (by omega), if_pos (by omega), Int.toNat_natCast]
  exact toMarkS_loop l (by omega) l.length k 0 (by omega) hk
theorem eqTrueS_loop (l : List S90) (hn : l.length ≤ 9000000000000000) (d : Nat) : ∀ (k i : Nat), i + d = l.length → d < k → laws_eqTrueS.l0 k l l (i : Int) = some true := by
  induction d with
  | zero =>
    intro k i hi hk
    obtain ⟨k, rfl⟩ : ∃ m, k = m + 1 := ⟨k - 1, by omega⟩
    simp only [laws_eqTrueS.l0]
    rw [if_neg (by omega)]
  | succ d ih =>
    intro k i hi hk
    obtain ⟨k, rfl⟩ : ∃ m, k = m + 1 := ⟨k - 1, by omega⟩
    simp only [laws_eqTrueS.l0]
    rw [if_pos (by omega), if_pos (by omega), if_pos (by omega), w64 (a := (i : Int) + 1) (by omega)]
    simp only [laws_eqTrue.f, if_true, Option.bind_some]
    exact ih k (i + 1) (by omega) (by omega)
theorem eqTrueS_refl (l : List S90) (hn : l.length ≤ 9000000000000000) {k : Nat} (hk : l.length < k) : laws_eqTrueS.f k l l = some true := by
  unfold laws_eqTrueS.f
  rw [if_pos rfl]
  exact eqTrueS_loop l hn l.length k 0 (by omega) hk
theorem eqMarkS_loop (l : List S37) (hn : l.length ≤ 9000000000000000) (d : Nat) : ∀ (k i : Nat), i + d = l.length → d < k → laws_eqMarkS.l0 k l l (i : Int) = some true := by
  induction d with
  | zero =>
    intro k i hi hk
    obtain ⟨k, rfl⟩ : ∃ m, k = m + 1 := ⟨k - 1, by omega⟩
    simp only [laws_eqMarkS.l0]
    rw [if_neg (by omega)]
  | succ d ih =>
    intro k i hi hk
    obtain ⟨k, rfl⟩ : ∃ m, k = m + 1 := ⟨k - 1, by omega⟩
    simp only [laws_eqMarkS.l0]
    rw [if_pos (by omega), if_pos (by omega), if_pos (by omega), w64 (a := (i : Int) + 1) (by omega)]
    simp only [laws_eqMark.f, if_true, Option.bind_some]
    exact ih k (i + 1) (by omega) (by omega)
theorem eqMarkS_refl (l : List S37) (hn : l.length ≤ 9000000000000000) {k : Nat} (hk : l.length < k) : laws_eqMarkS.f k l l = some true := by
  unfold laws_eqMarkS.f
  rw [if_pos rfl]
  exact eqMarkS_loop l hn l.length k 0 (by omega) hk
theorem eqEventS_loop (l : List S34) (hn : l.length ≤ 9000000000000000) (d : Nat) : ∀ (k i : Nat), i + d = l.length → d < k → laws_eqEventS.l0 k l l (i : Int) = some true := by
  induction d with
  | zero =>
    intro k i hi hk
    obtain ⟨k, rfl⟩ : ∃ m, k = m + 1 := ⟨k - 1, by omega⟩
    simp only [laws_eqEventS.l0]
    rw [if_neg (by omega)]
  | succ d ih =>
    intro k i hi hk
    obtain ⟨k, rfl⟩ : ∃ m, k = m + 1 := ⟨k - 1, by omega⟩
    simp only [laws_eqEventS.l0]
    rw [if_pos (by omega), if_pos (by omega), if_pos (by omega), w64 (a := (i : Int) + 1) (by omega)]
    simp only [laws_eqEvent.f, if_true, Option.bind_some]
    exact ih k (i + 1) (by omega) (by omega)
theorem eqEventS_refl (l : List S34) (hn : l.length ≤ 9000000000000000) {k : Nat} (hk : l.length < k) : laws_eqEventS.f k l l = some true := by
  unfold laws_eqEventS.f
  rw [if_pos rfl]
  exact eqEventS_loop l hn l.length k 0 (by omega) hk
theorem szTrueS_eq (l : List S119) (hn : l.length ≤ 9000000000000000) (a : Int) (ha : 0 ≤ a ∧ a ≤ 1048576) : laws_szTrueS.f l a = some (if (l.length : Int) ≤ a then a - l.length else -1) := by
  unfold laws_szTrueS.f
  rw [w64 (a := a - (l.length : Int)) (by omega)]
  (repeat' split) <;> first | rfl | omega
theorem szMarkS_eq (l : List S106) (hn : l.length ≤ 9000000000000000) (a : Int) (ha : 0 ≤ a ∧ a ≤ 1048576) : laws_szMarkS.f l a = some (if (l.length : Int) ≤ a then a - l.length else -1) := by
  unfold laws_szMarkS.f
  rw [w64 (a := a - (l.length : Int)) (by omega)]
  (repeat' split) <;> first | rfl | omega
theorem impl_MarksOk_eq (l : List S37) : impl_MarksOk.f l = some (marksB l) := rfl
theorem marksB_false {l : List S37} {i : Nat} (hi : i < l.length) (h : okAt l i = false) : marksB l = false := by
  unfold marksB
  rw [Bool.and_eq_false_iff]
  right
  rw [List.all_eq_false]
  exact ⟨i, List.mem_range.2 hi, by rw [h]; decide⟩
theorem okAt_of {l : List S37} (h : marksB l = true) {i : Nat} (hi : i < l.length) : okAt l i = true := by
  unfold marksB at h
  rw [Bool.and_eq_true, List.all_eq_true] at h
  exact h.2 i (List.mem_range.2 hi)
theorem marks_len {l : List S37} (h : marksB l = true) : l.length ≤ 100 := by
  unfold marksB at h
  rw [Bool.and_eq_true] at h
  exact of_decide_eq_true h.1
theorem okAt_range {l : List S37} {i : Nat} (h : okAt l i = true) : (1 ≤ (rd_T37 l (i : Int)).f0 ∧ (rd_T37 l (i : Int)).f0 ≤ 1000000000) ∧ (0 ≤ (rd_T37 l (i : Int)).f1 ∧ (rd_T37 l (i : Int)).f1 ≤ 100000000) := by
  unfold okAt at h
  simp only [Bool.and_eq_true, decide_eq_true_eq] at h
  exact ⟨h.1.1.1, h.1.2⟩
theorem spec_MarksOk_inner (l : List S37) (hn : l.length ≤ 9000000000000) (i : Nat) (hi : i < l.length) (M : Nat) (R : Bool) (x y : Int) (hR : ∀ k, M ≤ k → spec_MarksOk.l0 k l l (l.length : Int) ((i : Int) + 1) = some R) (e : Nat) :
    ∀ (k j : Nat), j + e = i → hadB l j x = false → M + e + 1 ≤ k → spec_MarksOk.l1 k l (i : Int) (j : Int) l (l.length : Int) (i : Int) x y = some (if hadB l i x = true then false else R) := by
  induction e with
  | zero =>
    intro k j hj hh hk
    obtain ⟨k, rfl⟩ : ∃ m, k = m + 1 := ⟨k - 1, by omega⟩
    obtain rfl : j = i := by omega
    simp only [spec_MarksOk.l1]
    rw [if_neg (by omega), w64 (a := (j : Int) + 1) (by omega), hR k (by omega), hh]
    rfl
  | succ e ih =>
    intro k j hj hh hk
    obtain ⟨k, rfl⟩ : ∃ m, k = m + 1 := ⟨k - 1, by omega⟩
    simp only [spec_MarksOk.l1]
    rw [if_pos (by omega), if_pos (by omega), if_pos (by omega), w64 (a := (j : Int) + 1) (by omega)]
    by_cases h : (rd_T37 l (j : Int)).f0 = x
    · rw [if_pos h]
      have : hadB l i x = true := by
        unfold hadB
        rw [List.any_eq_true]
        exact ⟨j, List.mem_range.2 (by omega), by rw [h]; simp⟩
      rw [this]
      rfl
    · rw [if_neg h]
      refine ih k (j + 1) (by omega) ?_ (by omega)
      rw [hadB_succ, hh]
      simp [h]
theorem spec_MarksOk_loop (l : List S37) (hn : l.length ≤ 9000000000000) (d : Nat) :
    ∀ (k i : Nat), i + d = l.length → d * (l.length + 3) + 1 ≤ k → (∀ j, j < i → okAt l j = true) → spec_MarksOk.l0 k l l (l.length : Int) (i : Int) = some (marksB l) := by
  induction d with
  | zero =>
    intro k i hi hk hok
    obtain ⟨k, rfl⟩ : ∃ m, k = m + 1 := ⟨k - 1, by omega⟩
    simp only [spec_MarksOk.l0]
    rw [if_neg (by omega)]
    unfold marksB
    have : (List.range l.length).all (okAt l) = true := by
      rw [List.all_eq_true]
      intro j hj
      exact hok j (by have := List.mem_range.1 hj; omega)
    rw [this, Bool.and_true]
    exact congrArg some (decide_eq_decide.2 (by omega))
  | succ d ih =>
    intro k i hi hk hok
    rw [Nat.succ_mul] at hk
    generalize hq : d * (l.length + 3) = q at hk ih
    obtain ⟨k, rfl⟩ : ∃ m, k = m + 2 := ⟨k - 2, by omega⟩
    have hil : i < l.length := by omega
    have fin : ∀ (b : Bool), (b = true → okAt l i = false) → (b = false → (decide (1 ≤ (rd_T37 l (i : Int)).f0 ∧ (rd_T37 l (i : Int)).f0 ≤ 1000000000) && decide (0 ≤ (rd_T37 l (i : Int)).f1 ∧ (rd_T37 l (i : Int)).f1 ≤ 100000000) && (decide (i = 0) || decide ((rd_T37 l ((i : Int) - 1)).f1 < (rd_T37 l (i : Int)).f1))) = true) →
        spec_MarksOk.j1 (k + 1) l (i : Int) l (l.length : Int) (i : Int) b (rd_T37 l (i : Int)).f0 (rd_T37 l (i : Int)).f1 = some (marksB l) := by
      intro b h1 h2
      simp only [spec_MarksOk.j1]
      cases b with
      | true => rw [if_pos rfl, marksB_false hil (h1 rfl)]
      | false =>
        rw [if_neg (by decide)]
        have hb := h2 rfl
        by_cases hh : hadB l i (rd_T37 l (i : Int)).f0 = true
        · have hm : marksB l = false := marksB_false hil (by unfold okAt; rw [hh]; simp)
          have := spec_MarksOk_inner l hn i hil k false (rd_T37 l (i : Int)).f0 (rd_T37 l (i : Int)).f1
          clear this
          -- a name that was had: the inner loop ends in false, whatever comes behind
          have ends : ∀ (e k' j : Nat), j + e = i → hadB l j (rd_T37 l (i : Int)).f0 = false → e + 1 ≤ k' → spec_MarksOk.l1 k' l (i : Int) (j : Int) l (l.length : Int) (i : Int) (rd_T37 l (i : Int)).f0 (rd_T37 l (i : Int)).f1 = some false := by
            intro e
            induction e with
            | zero =>
              intro k' j hj hnot _
              obtain rfl : j = i := by omega
              rw [hh] at hnot
              cases hnot
            | succ e ihe =>
              intro k' j hj hnot hk'
              obtain ⟨k', rfl⟩ : ∃ m, k' = m + 1 := ⟨k' - 1, by omega⟩
              simp only [spec_MarksOk.l1]
              rw [if_pos (by omega), if_pos (by omega), if_pos (by omega), w64 (a := (j : Int) + 1) (by omega)]
              by_cases h : (rd_T37 l (j : Int)).f0 = (rd_T37 l (i : Int)).f0
              · rw [if_pos h]
              · rw [if_neg h]
                refine ihe k' (j + 1) (by omega) ?_ (by omega)
                rw [hadB_succ, hnot]
                simp [h]
          rw [hm]
          exact ends i k 0 (by omega) (by simp [hadB]) (by omega)
        · have hh' : hadB l i (rd_T37 l (i : Int)).f0 = false := by simpa using hh
          have hok' : okAt l i = true := by
            unfold okAt
            rw [hh']
            simp only [Bool.and_eq_true] at hb ⊢
            exact ⟨⟨⟨hb.1.1, rfl⟩, hb.1.2⟩, hb.2⟩
          have := spec_MarksOk_inner l hn i hil (q + 1) (marksB l) (rd_T37 l (i : Int)).f0 (rd_T37 l (i : Int)).f1 (fun k' hk' => by
            have := ih k' (i + 1) (by omega) (by omega) (fun j hj => by
              rcases Nat.lt_or_ge j i with h | h
              · exact hok j h
              · obtain rfl : j = i := by omega
                exact hok')
            rwa [show ((i + 1 : Nat) : Int) = (i : Int) + 1 by omega] at this) i k 0 (by omega) (by simp [hadB]) (by omega)
          rw [hh', if_neg (by decide)] at this
          exact this
    simp only [spec_MarksOk.l0, spec_l1in_eq, Option.bind_some]
    rw [if_pos (by omega), if_pos (by omega), if_pos (by omega)]
    by_cases hat : 0 ≤ (rd_T37 l (i : Int)).f1 ∧ (rd_T37 l (i : Int)).f1 ≤ 100000000
    · rw [decide_eq_true hat, if_pos rfl]
      by_cases h0 : (i : Int) > 0
      · rw [if_pos h0, w64 (a := (i : Int) - 1) (by omega), if_pos (by omega), if_pos (by omega)]
        by_cases hp : (rd_T37 l (i : Int)).f1 ≤ (rd_T37 l ((i : Int) - 1)).f1
        · rw [if_pos hp]
          exact fin true (fun _ => by unfold okAt; rw [decide_eq_false (show ¬ i = 0 by omega), decide_eq_false (show ¬ (rd_T37 l ((i : Int) - 1)).f1 < (rd_T37 l (i : Int)).f1 by omega)]; simp) (fun h => by cases h)
        · rw [if_neg hp]
          refine fin _ (fun h => ?_) (fun h => ?_)
          · unfold okAt
            rw [show decide (1 ≤ (rd_T37 l (i : Int)).f0 ∧ (rd_T37 l (i : Int)).f0 ≤ 1000000000) = false by simpa only [Bool.not_eq_true'] using h]
            rfl
          · rw [decide_eq_true (show 1 ≤ (rd_T37 l (i : Int)).f0 ∧ (rd_T37 l (i : Int)).f0 ≤ 1000000000 by simpa using h), decide_eq_true hat, decide_eq_true (show (rd_T37 l ((i : Int) - 1)).f1 < (rd_T37 l (i : Int)).f1 by omega)]
            simp
      · rw [if_neg h0]
        refine fin _ (fun h => ?_) (fun h => ?_)
        · unfold okAt
          rw [show decide (1 ≤ (rd_T37 l (i : Int)).f0 ∧ (rd_T37 l (i : Int)).f0 ≤ 1000000000) = false by simpa only [Bool.not_eq_true'] using h]
          rfl
        · rw [decide_eq_true (show 1 ≤ (rd_T37 l (i : Int)).f0 ∧ (rd_T37 l (i : Int)).f0 ≤ 1000000000 by simpa using h), decide_eq_true hat, decide_eq_true (show i = 0 by omega)]
          rfl
    · rw [decide_eq_false hat, if_neg (by decide)]
      exact fin true (fun _ => by unfold okAt; rw [decide_eq_false hat]; simp) (fun h => by cases h)
theorem spec_MarksOk_eq (l : List S37) (hn : l.length ≤ 9000000000000) {k : Nat} (hk : l.length * (l.length + 3) + 1 ≤ k) : spec_MarksOk.f k l = some (marksB l) := by
  unfold spec_MarksOk.f
  exact spec_MarksOk_loop l hn l.length k 0 (by omega) hk (fun j hj => by omega)
/-- The rounds that suffice for a list of n marks. -/
def Kn (n : Nat) : Nat := n * (n + 3) + 2 * n + 300000
theorem rd_Int (xs : List Int) (i : Nat) (h : i < xs.length) : rd xs (i : Int) = xs[i] := by
  simp [rd, List.getD_eq_getElem?_getD, h]
theorem toIntS_loop (l : List Int) (hn : l.length ≤ 9000000000000000) (d : Nat) : ∀ (k i : Nat), i + d = l.length → d < k → laws_toIntS.l0 k l (l.take i ++ List.replicate d 0) (i : Int) = some l := by
  induction d with
  | zero =>
    intro k i hi hk
    obtain ⟨k, rfl⟩ : ∃ m, k = m + 1 := ⟨k - 1, by omega⟩
    simp only [laws_toIntS.l0]
    rw [if_neg (by omega), List.take_of_length_le (by omega)]
    simp
  | succ d ih =>
    intro k i hi hk
    obtain ⟨k, rfl⟩ : ∃ m, k = m + 1 := ⟨k - 1, by omega⟩
    simp only [laws_toIntS.l0]
    rw [if_pos (by omega), if_pos (by omega), rd_Int l i (by omega)]
    have hlen : (l.take i).length = i := by simp; omega
    rw [if_pos (by simp; omega), w64 (a := (i : Int) + 1) (by omega)]
    have e : (l.take i ++ List.replicate (d + 1) 0).set ((i : Int)).toNat l[i] = l.take (i + 1) ++ List.replicate d 0 := by
      rw [List.set_append, Int.toNat_natCast, if_neg (by omega), hlen, Nat.sub_self, List.replicate_succ, List.set_cons_zero, List.take_succ_eq_append_getElem (by omega), List.append_assoc]
      rfl
    rw [e]
    exact ih k (i + 1) (by omega) (by omega)
theorem toIntS_eq (l : List Int) (hn : l.length ≤ 1048576) {k : Nat} (hk : l.length < k) : laws_toIntS.f k l = some l := by
  unfold laws_toIntS.f
  rw [if_pos (by omega), if_pos (by omega), Int.toNat_natCast]
  exact toIntS_loop l (by omega) l.length k 0 (by omega) hk
theorem eqIntS_loop (l : List Int) (hn : l.length ≤ 9000000000000000) (d : Nat) : ∀ (k i : Nat), i + d = l.length → d < k → laws_eqIntS.l0 k l l (i : Int) = some true := by
  induction d with
  | zero =>
    intro k i hi hk
    obtain ⟨k, rfl⟩ : ∃ m, k = m + 1 := ⟨k - 1, by omega⟩
    simp only [laws_eqIntS.l0]
    rw [if_neg (by omega)]
  | succ d ih =>
    intro k i hi hk
    obtain ⟨k, rfl⟩ : ∃ m, k = m + 1 := ⟨k - 1, by omega⟩
    simp only [laws_eqIntS.l0]
    rw [if_pos (by omega), if_pos (by omega), if_pos (by omega), if_pos trivial, w64 (a := (i : Int) + 1) (by omega)]
    exact ih k (i + 1) (by omega) (by omega)
theorem eqIntS_refl (l : List Int) (hn : l.length ≤ 9000000000000000) {k : Nat} (hk : l.length < k) : laws_eqIntS.f k l l = some true := by
  unfold laws_eqIntS.f
  rw [if_pos rfl]
  exact eqIntS_loop l hn l.length k 0 (by omega) hk
theorem markIntS_loop (d : Nat) : ∀ (k i : Nat) (l : List Int) (a : Int), i + d = l.length → d < k → l.length ≤ 9000000000000 → 0 ≤ a → a ≤ 90000000000000 + i → ∃ l', laws_markIntS.l0 k l a (i : Int) = some (a + d, l') := by
  induction d with
  | zero =>
    intro k i l a hi hk hn h0 h1
    obtain ⟨k, rfl⟩ : ∃ m, k = m + 1 := ⟨k - 1, by omega⟩
    simp only [laws_markIntS.l0]
    rw [if_neg (by omega)]
    exact ⟨l, by simp⟩
  | succ d ih =>
    intro k i l a hi hk hn h0 h1
    obtain ⟨k, rfl⟩ : ∃ m, k = m + 1 := ⟨k - 1, by omega⟩
    simp only [laws_markIntS.l0]
    rw [if_pos (by omega), if_pos (by omega), w64 (a := a + 1) (by omega), w64 (a := (i : Int) + 1) (by omega)]
    obtain ⟨l', h⟩ := ih k (i + 1) (l.set ((i : Int)).toNat a) (a + 1) (by simp; omega) (by omega) (by simp; omega) (by omega) (by omega)
    rw [show ((i + 1 : Nat) : Int) = (i : Int) + 1 by omega] at h
    exact ⟨l', by rw [h]; congr 2; omega⟩
theorem markTrueS_loop (d : Nat) : ∀ (k i : Nat) (l : List S90) (a : Int), i + d = l.length → d < k → l.length ≤ 9000000000000 → 0 ≤ a → a ≤ 30000000000000 + 2 * i → ∃ l', laws_markTrueS.l0 k l a (i : Int) = some (a + 2 * d, l') := by
  induction d with
  | zero =>
    intro k i l a hi hk hn h0 h1
    obtain ⟨k, rfl⟩ : ∃ m, k = m + 1 := ⟨k - 1, by omega⟩
    simp only [laws_markTrueS.l0]
    rw [if_neg (by omega)]
    exact ⟨l, by simp⟩
  | succ d ih =>
    intro k i l a hi hk hn h0 h1
    obtain ⟨k, rfl⟩ : ∃ m, k = m + 1 := ⟨k - 1, by omega⟩
    simp only [laws_markTrueS.l0, Option.bind_some]
    rw [if_pos (by omega), if_pos (by omega), w64 (a := a + 1) (by omega), w64 (a := a + 1 + 1) (by omega), w64 (a := (i : Int) + 1) (by omega)]
    generalize hL : ((l.set ((i : Int)).toNat ⟨a, (rd_T90 l (i : Int)).f1⟩).set ((i : Int)).toNat ⟨(rd_T90 (l.set ((i : Int)).toNat ⟨a, (rd_T90 l (i : Int)).f1⟩) (i : Int)).f0, a + 1⟩) = L
    have hLl : L.length = l.length := by rw [← hL]; simp
    obtain ⟨l', h⟩ := ih k (i + 1) L (a + 1 + 1) (by omega) (by omega) (by omega) (by omega) (by omega)
    rw [show ((i + 1 : Nat) : Int) = (i : Int) + 1 by omega] at h
    exact ⟨l', by rw [h]; congr 2; omega⟩
theorem markMarkS_loop (d : Nat) : ∀ (k i : Nat) (l : List S37) (a : Int), i + d = l.length → d < k → l.length ≤ 9000000000000 → 0 ≤ a → a ≤ 30000000000000 + 2 * i → ∃ l', laws_markMarkS.l0 k l a (i : Int) = some (a + 2 * d, l') := by
  induction d with
  | zero =>
    intro k i l a hi hk hn h0 h1
    obtain ⟨k, rfl⟩ : ∃ m, k = m + 1 := ⟨k - 1, by omega⟩
    simp only [laws_markMarkS.l0]
    rw [if_neg (by omega)]
    exact ⟨l, by simp⟩
  | succ d ih =>
    intro k i l a hi hk hn h0 h1
    obtain ⟨k, rfl⟩ : ∃ m, k = m + 1 := ⟨k - 1, by omega⟩
    simp only [laws_markMarkS.l0, Option.bind_some]
    rw [if_pos (by omega), if_pos (by omega), w64 (a := a + 1) (by omega), w64 (a := a + 1 + 1) (by omega), w64 (a := (i : Int) + 1) (by omega)]
    generalize hL : ((l.set ((i : Int)).toNat ⟨a, (rd_T37 l (i : Int)).f1⟩).set ((i : Int)).toNat ⟨(rd_T37 (l.set ((i : Int)).toNat ⟨a, (rd_T37 l (i : Int)).f1⟩) (i : Int)).f0, a + 1⟩) = L
    have hLl : L.length = l.length := by rw [← hL]; simp
    obtain ⟨l', h⟩ := ih k (i + 1) L (a + 1 + 1) (by omega) (by omega) (by omega) (by omega) (by omega)
    rw [show ((i + 1 : Nat) : Int) = (i : Int) + 1 by omega] at h
    exact ⟨l', by rw [h]; congr 2; omega⟩
def mkE (n : Nat) : List S34 := (List.range n).map fun (i : Nat) => (⟨1 + 2 * (i : Int), 2 + 2 * (i : Int)⟩ : S34)
theorem mkE_len (n : Nat) : (mkE n).length = n := by simp [mkE]
theorem mkE_succ (n : Nat) : mkE (n + 1) = mkE n ++ [⟨1 + 2 * (n : Int), 2 + 2 * (n : Int)⟩] := by simp [mkE, List.range_succ]
theorem markEventS_loop (l : List S34) (hn : l.length ≤ 9000000000000) (d : Nat) : ∀ (k i : Nat), i + d = l.length → d < k → laws_markEventS.l0 k (mkE i ++ l.drop i) (1 + 2 * (i : Int)) (i : Int) = some (1 + 2 * (l.length : Int), mkE l.length) := by
  induction d with
  | zero =>
    intro k i hi hk
    obtain ⟨k, rfl⟩ : ∃ m, k = m + 1 := ⟨k - 1, by omega⟩
    simp only [laws_markEventS.l0]
    obtain rfl : i = l.length := by omega
    rw [List.drop_length, List.append_nil, if_neg (by rw [mkE_len]; omega)]
  | succ d ih =>
    intro k i hi hk
    obtain ⟨k, rfl⟩ : ∃ m, k = m + 1 := ⟨k - 1, by omega⟩
    simp only [laws_markEventS.l0, Option.bind_some]
    have hlen : (mkE i ++ l.drop i).length = l.length := by rw [List.length_append, mkE_len, List.length_drop]; omega
    rw [if_pos (by rw [hlen]; omega), if_pos (by omega), w64 (a := 1 + 2 * (i : Int) + 1) (by omega), w64 (a := 1 + 2 * (i : Int) + 1 + 1) (by omega), w64 (a := (i : Int) + 1) (by omega), Int.toNat_natCast]
    have hs : ∀ x : S34, (mkE i ++ l.drop i).set i x = mkE i ++ x :: l.drop (i + 1) := by
      intro x
      rw [List.set_append, if_neg (by rw [mkE_len]; omega), mkE_len, Nat.sub_self, List.drop_eq_getElem_cons (show i < l.length by omega), List.set_cons_zero]
    have hs2 : ∀ x y : S34, (mkE i ++ x :: l.drop (i + 1)).set i y = mkE i ++ y :: l.drop (i + 1) := by
      intro x y
      rw [List.set_append, if_neg (by rw [mkE_len]; omega), mkE_len, Nat.sub_self, List.set_cons_zero]
    have hr : ∀ x : S34, rd_T34 (mkE i ++ x :: l.drop (i + 1)) (i : Int) = x := by
      intro x
      rw [rd_Event _ i (by simp [mkE_len])]
      rw [List.getElem_append_right (by rw [mkE_len]; omega)]
      simp [mkE_len]
    rw [hs, hr, hs2]
    have := ih k (i + 1) (by omega) (by omega)
    rw [mkE_succ, List.append_assoc, show ((i + 1 : Nat) : Int) = (i : Int) + 1 by omega] at this
    rw [show 1 + 2 * (i : Int) + 1 + 1 = 1 + 2 * ((i : Int) + 1) by omega, show 1 + 2 * (i : Int) + 1 = 2 + 2 * (i : Int) by omega]
    exact this
theorem heldEventS_loop (n : Nat) (hn : n ≤ 9000000000000) (d : Nat) : ∀ (k i : Nat), i + d = n → d < k → laws_heldEventS.l0 k (mkE n) (1 + 2 * (i : Int)) (i : Int) = some (1 + 2 * (n : Int)) := by
  induction d with
  | zero =>
    intro k i hi hk
    obtain ⟨k, rfl⟩ : ∃ m, k = m + 1 := ⟨k - 1, by omega⟩
    simp only [laws_heldEventS.l0]
    rw [if_neg (by rw [mkE_len]; omega)]
    obtain rfl : i = n := by omega
    rfl
  | succ d ih =>
    intro k i hi hk
    obtain ⟨k, rfl⟩ : ∃ m, k = m + 1 := ⟨k - 1, by omega⟩
    simp only [laws_heldEventS.l0]
    have he : rd_T34 (mkE n) (i : Int) = ⟨1 + 2 * (i : Int), 2 + 2 * (i : Int)⟩ := by
      rw [rd_Event _ i (by rw [mkE_len]; omega)]
      simp [mkE]
    rw [he]
    dsimp only
    rw [if_pos (by rw [mkE_len]; omega), if_pos (by omega), if_pos (by omega), w64 (a := 1 + 2 * (i : Int) + 1) (by omega), w64 (a := 1 + 2 * (i : Int) + 1 + 1) (by omega), w64 (a := (i : Int) + 1) (by omega), if_pos (by omega)]
    have := ih k (i + 1) (by omega) (by omega)
    rw [show ((i + 1 : Nat) : Int) = (i : Int) + 1 by omega] at this
    rw [show 1 + 2 * (i : Int) + 1 + 1 = 1 + 2 * ((i : Int) + 1) by omega]
    exact this
/-- The marks from which the front is near. -/
def near (m at_ : Int) (x : S37) : Bool := decide (-m ≤ x.f1 - at_ ∧ x.f1 - at_ ≤ m)
def seen (m at_ : Int) (ms : List S37) : List S34 := (ms.filter (near m at_)).map fun x => ⟨2, x.f0⟩
theorem seen_cons (m at_ : Int) (x : S37) (r : List S37) : seen m at_ (x :: r) = (if near m at_ x = true then [⟨2, x.f0⟩] else []) ++ seen m at_ r := by
  unfold seen
  rw [List.filter_cons]
  split <;> rfl
theorem seen_len (m at_ : Int) (ms : List S37) : (seen m at_ ms).length ≤ ms.length := by
  unfold seen
  rw [List.length_map]
  exact List.length_filter_le ..
abbrev tickR (t : S90) : Prop := (0 ≤ t.f0 ∧ t.f0 ≤ 100000) ∧ (0 ≤ t.f1 ∧ t.f1 ≤ 100000)
/-- What Felt tells, from a place on. -/
def feltGo (m : Int) (ms : List S37) : Int → List S34 → List S90 → List Int → List S34
  | at_, out, t :: ts, r :: rs => if tickR t then (if at_ + t.f0 > 100000000 then [] else feltGo m ms (at_ + t.f0) (out ++ [⟨1, t.f1⟩] ++ (if r = 1 then seen m (at_ + t.f0) ms else [])) ts rs) else []
  | _, out, _, _ => if (out.length : Int) > 2000 then [] else out
def feltV (s j m l o : Int) (ms : List S37) (at_ : Int) (ts : List S90) (rs : List Int) : List S34 :=
  if okR s j m l o ∧ marksB ms = true ∧ (0 ≤ at_ ∧ at_ ≤ 100000000) ∧ ts.length ≤ 2000 ∧ rs.length = ts.length then feltGo m ms at_ [] ts rs else []
theorem feltGo_nil (m : Int) (ms : List S37) (at_ : Int) (out : List S34) (rs : List Int) : feltGo m ms at_ out [] rs = if (out.length : Int) > 2000 then [] else out := by
  cases rs <;> rfl
theorem rdM (xs : List S37) (i : Nat) (h : i < xs.length) : rd_T37 xs (i : Int) = xs[i] := by
  simp [rd_T37, List.getD_eq_getElem?_getD, h]
theorem rdT (xs : List S90) (i : Nat) (h : i < xs.length) : rd_T90 xs (i : Int) = xs[i] := by
  simp [rd_T90, List.getD_eq_getElem?_getD, h]
theorem rdI (xs : List Int) (i : Nat) (h : i < xs.length) : rd xs (i : Int) = xs[i] := by
  simp [rd, List.getD_eq_getElem?_getD, h]
theorem impl_Felt_inner {s j m l o : Int} (hm : 0 ≤ m ∧ m ≤ 10000) (ms : List S37) (hms : marksB ms = true) (ts : List S90) (rs : List Int) (at_ : Int) (ha : 0 ≤ at_ ∧ at_ ≤ 100000000) (i : Nat) (hi : i ≤ 100000) (M : Nat) (R : List S34) (e : Nat) :
    ∀ (k j' : Nat) (out : List S34), j' + e = ms.length → M + e + 1 ≤ k → out.length + e ≤ 1000000000 → (∀ k', M ≤ k' → impl_Felt.l0 k' ms at_ rs (out ++ seen m at_ (ms.drop j')) ts (ts.length : Int) ((i : Int) + 1) s j m l o = some R) →
      impl_Felt.l1 k ms at_ rs out ts (ts.length : Int) (i : Int) ms (ms.length : Int) (j' : Int) s j m l o = some R := by
  induction e with
  | zero =>
    intro k j' out hj hk ho hR
    obtain ⟨k, rfl⟩ : ∃ q, k = q + 1 := ⟨k - 1, by omega⟩
    simp only [impl_Felt.l1]
    rw [if_neg (by omega), w64 (a := (i : Int) + 1) (by omega)]
    have := hR k (by omega)
    rw [List.drop_of_length_le (by omega)] at this
    simpa [seen] using this
  | succ e ih =>
    intro k j' out hj hk ho hR
    obtain ⟨k, rfl⟩ : ∃ q, k = q + 1 := ⟨k - 1, by omega⟩
    have hj' : j' < ms.length := by omega
    have hml := marks_len hms
    have hr := (okAt_range (okAt_of hms hj')).2
    rw [rdM ms j' hj'] at hr
    simp only [impl_Felt.l1]
    rw [if_pos (by omega), if_pos (by omega), if_pos (by omega), rdM ms j' hj', w64 (a := ms[j'].f1 - at_) (by omega), w64 (a := -m) (by omega), w64 (a := (j' : Int) + 1) (by omega), impl_in_eq]
    rw [List.drop_eq_getElem_cons hj'] at hR
    simp only [seen_cons] at hR
    simp only [Option.bind_some]
    by_cases h : near m at_ ms[j'] = true
    · have h' : -m ≤ ms[j'].f1 - at_ ∧ ms[j'].f1 - at_ ≤ m := of_decide_eq_true h
      rw [decide_eq_true h', if_pos rfl, if_pos (by omega)]
      simp only [h, if_true] at hR
      exact ih k (j' + 1) _ (by omega) (by omega) (by simp; omega) (fun k' hk' => by rw [List.append_assoc]; exact hR k' hk')
    · have h' : ¬ (-m ≤ ms[j'].f1 - at_ ∧ ms[j'].f1 - at_ ≤ m) := fun q => h (decide_eq_true q)
      rw [decide_eq_false h', if_neg (by decide)]
      simp only [h, if_false, List.nil_append, Bool.false_eq_true] at hR
      exact ih k (j' + 1) _ (by omega) (by omega) (by omega) hR
theorem impl_Felt_loop {s j m l o : Int} (hm : 0 ≤ m ∧ m ≤ 10000) (ms : List S37) (hms : marksB ms = true) (ts : List S90) (hts : ts.length ≤ 2000) (rs : List Int) (hrs : rs.length = ts.length) (d : Nat) :
    ∀ (k i : Nat) (at_ : Int) (out : List S34), i + d = ts.length → d * (ms.length + 3) + 1 ≤ k → (0 ≤ at_ ∧ at_ ≤ 100000000) → out.length ≤ i * (ms.length + 1) →
      impl_Felt.l0 k ms at_ rs out ts (ts.length : Int) (i : Int) s j m l o = some (feltGo m ms at_ out (ts.drop i) (rs.drop i)) := by
  have hml := marks_len hms
  induction d with
  | zero =>
    intro k i at_ out hi hk ha ho
    obtain ⟨k, rfl⟩ : ∃ q, k = q + 1 := ⟨k - 1, by omega⟩
    simp only [impl_Felt.l0]
    rw [if_neg (by omega), List.drop_of_length_le (show ts.length ≤ i by omega), feltGo_nil]
    split <;> rfl
  | succ d ih =>
    intro k i at_ out hi hk ha ho
    rw [Nat.succ_mul] at hk
    generalize hq : d * (ms.length + 3) = q at hk ih
    obtain ⟨k, rfl⟩ : ∃ q, k = q + 2 := ⟨k - 2, by omega⟩
    have hit : i < ts.length := by omega
    have hol : out.length ≤ 1000000 := Nat.le_trans ho (Nat.le_trans (Nat.mul_le_mul (show i ≤ 2000 by omega) (show ms.length + 1 ≤ 101 by omega)) (by omega))
    simp only [impl_Felt.l0, impl_Felt.j2, impl_in_eq, Option.bind_some]
    rw [if_pos (by omega), if_pos (by omega), if_pos (by omega), rdT ts i hit, List.drop_eq_getElem_cons hit, List.drop_eq_getElem_cons (show i < rs.length by omega)]
    simp only [feltGo]
    generalize ts[i] = t
    by_cases h1 : 0 ≤ t.f0 ∧ t.f0 ≤ 100000
    · rw [decide_eq_true h1, if_pos rfl]
      by_cases h2 : 0 ≤ t.f1 ∧ t.f1 ≤ 100000
      · rw [decide_eq_true h2, if_pos (show tickR t from ⟨h1, h2⟩), if_neg (by decide), if_pos (by omega), w64 (a := at_ + t.f0) (by omega)]
        by_cases h3 : at_ + t.f0 > 100000000
        · rw [if_pos h3, if_pos h3]
        · rw [if_neg h3, if_neg h3, if_pos (by omega), if_pos (by omega), rdI rs i (by omega), w64 (a := (i : Int) + 1) (by omega)]
          have hlen2 : ∀ z : List S34, z.length ≤ ms.length → (out ++ [(⟨1, t.f1⟩ : S34)] ++ z).length ≤ (i + 1) * (ms.length + 1) := by
            intro z hz
            rw [Nat.succ_mul, List.length_append, List.length_append]
            simp only [List.length_singleton]
            omega
          by_cases h4 : rs[i] = 1
          · rw [if_pos h4, if_pos h4]
            have := impl_Felt_inner (s := s) (j := j) (l := l) (o := o) hm ms hms ts rs (at_ + t.f0) (by omega) i (by omega) (q + 1) (feltGo m ms (at_ + t.f0) (out ++ [⟨1, t.f1⟩] ++ seen m (at_ + t.f0) ms) (ts.drop (i + 1)) (rs.drop (i + 1))) ms.length k 0 (out ++ [⟨1, t.f1⟩]) (by omega) (by omega) (by simp; omega) (fun k' hk' => by
              rw [List.drop_zero]
              have := ih k' (i + 1) (at_ + t.f0) (out ++ [⟨1, t.f1⟩] ++ seen m (at_ + t.f0) ms) (by omega) (by omega) (by omega) (hlen2 _ (seen_len ..))
              rwa [show ((i + 1 : Nat) : Int) = (i : Int) + 1 by omega] at this)
            exact this
          · rw [if_neg h4, if_neg h4, List.append_nil]
            have := ih k (i + 1) (at_ + t.f0) (out ++ [⟨1, t.f1⟩]) (by omega) (by omega) (by omega) (by have := hlen2 [] (by simp); simpa using this)
            rwa [show ((i + 1 : Nat) : Int) = (i : Int) + 1 by omega] at this
      · rw [decide_eq_false h2, if_neg (show ¬ tickR t from fun h => h2 h.2)]
        rfl
    · rw [decide_eq_false h1, if_neg (show ¬ tickR t from fun h => h1 h.1), if_neg (by decide), if_pos trivial]
theorem impl_Felt_eq (s j m l o : Int) (ms : List S37) (at_ : Int) (ts : List S90) (rs : List Int) (hn : rs.length ≤ 9000000000000) (hn2 : ts.length ≤ 9000000000000) {k : Nat} (hk : 210000 ≤ k) :
    impl_Felt.f k s j m l o ms at_ ts rs = some (feltV s j m l o ms at_ ts rs) := by
  obtain ⟨k, rfl⟩ : ∃ q, k = q + 1 := ⟨k - 1, by omega⟩
  simp only [impl_Felt.f, impl_RulesOk_eq, impl_MarksOk_eq, impl_in_eq, Option.bind_some, decide_eq_true_eq, impl_Felt.j0, if_true, feltV]
  by_cases hr : okR s j m l o
  · rw [if_pos hr]
    by_cases hm : marksB ms = true
    · rw [if_pos hm]
      by_cases ha : 0 ≤ at_ ∧ at_ ≤ 100000000
      · rw [if_pos ha]
        by_cases ht : ts.length ≤ 2000
        · rw [if_neg (show ¬ (ts.length : Int) > 2000 by omega)]
          by_cases hl : rs.length = ts.length
          · rw [if_pos (show okR s j m l o ∧ marksB ms = true ∧ (0 ≤ at_ ∧ at_ ≤ 100000000) ∧ ts.length ≤ 2000 ∧ rs.length = ts.length from ⟨hr, hm, ha, ht, hl⟩), hl]
            simp only [bne_self_eq_false, Bool.false_eq_true, if_false]
            have hml := marks_len hm
            have hb : ts.length * (ms.length + 3) ≤ 2000 * 103 := Nat.mul_le_mul ht (by omega)
            have := impl_Felt_loop (s := s) (j := j) (l := l) (o := o) (m := m) (by omega) ms hm ts ht rs hl ts.length k 0 at_ [] (by omega) (by omega) ha (by simp)
            simpa using this
          · rw [if_neg (show ¬ (okR s j m l o ∧ marksB ms = true ∧ (0 ≤ at_ ∧ at_ ≤ 100000000) ∧ ts.length ≤ 2000 ∧ rs.length = ts.length) from fun h => hl h.2.2.2.2), if_pos]
            rw [bne_iff_ne]
            omega
        · rw [if_pos (show (ts.length : Int) > 2000 by omega), if_neg (show ¬ (okR s j m l o ∧ marksB ms = true ∧ (0 ≤ at_ ∧ at_ ≤ 100000000) ∧ ts.length ≤ 2000 ∧ rs.length = ts.length) from fun h => ht h.2.2.2.1)]
      · rw [if_neg ha, if_neg (show ¬ (okR s j m l o ∧ marksB ms = true ∧ (0 ≤ at_ ∧ at_ ≤ 100000000) ∧ ts.length ≤ 2000 ∧ rs.length = ts.length) from fun h => ha h.2.2.1)]
    · rw [if_neg hm, if_neg (show ¬ (okR s j m l o ∧ marksB ms = true ∧ (0 ≤ at_ ∧ at_ ≤ 100000000) ∧ ts.length ≤ 2000 ∧ rs.length = ts.length) from fun h => hm h.2.1)]
  · rw [if_neg hr, if_neg (show ¬ (okR s j m l o ∧ marksB ms = true ∧ (0 ≤ at_ ∧ at_ ≤ 100000000) ∧ ts.length ≤ 2000 ∧ rs.length = ts.length) from fun h => hr h.1)]
theorem l4true_eq (a b : Int) : spec_l4true.f a b = some (decide ((0 ≤ a ∧ a ≤ 100000) ∧ (0 ≤ b ∧ b ≤ 100000))) := by
  simp only [spec_l4true.f, spec_l1in_eq, Option.bind_some, decide_eq_true_eq]
  split <;> (apply sd; simp only [decide_eq_true_eq, Bool.false_eq_true, false_iff]; omega)
theorem spec_Felt_inner {s j m l o : Int} (hm : 0 ≤ m ∧ m ≤ 10000) (ms : List S37) (hms : marksB ms = true) (ts : List S90) (rs : List Int) (at_ : Int) (ha : 0 ≤ at_ ∧ at_ ≤ 100000000) (i : Nat) (hi : i ≤ 100000) (hir : i < rs.length) (M : Nat) (R : List S34) (e : Nat) :
    ∀ (k j' : Nat) (out : List S34), j' + e = ms.length → M + e + 1 ≤ k → out.length + e ≤ 1000000000 → (∀ k', M ≤ k' → spec_Felt.l0 k' ms at_ rs (out ++ (if rs[i] = 1 then seen m at_ (ms.drop j') else [])) ts (ts.length : Int) ((i : Int) + 1) s j m l o = some R) →
      spec_Felt.l1 k ms at_ rs out (i : Int) ts (ts.length : Int) (i : Int) ms (ms.length : Int) (j' : Int) s j m l o = some R := by
  induction e with
  | zero =>
    intro k j' out hj hk ho hR
    obtain ⟨k, rfl⟩ : ∃ q, k = q + 1 := ⟨k - 1, by omega⟩
    simp only [spec_Felt.l1]
    rw [if_neg (by omega), w64 (a := (i : Int) + 1) (by omega)]
    have := hR k (by omega)
    rw [List.drop_of_length_le (by omega)] at this
    simpa [seen] using this
  | succ e ih =>
    intro k j' out hj hk ho hR
    obtain ⟨k, rfl⟩ : ∃ q, k = q + 1 := ⟨k - 1, by omega⟩
    have hj' : j' < ms.length := by omega
    have hml := marks_len hms
    have hr := (okAt_range (okAt_of hms hj')).2
    rw [rdM ms j' hj'] at hr
    simp only [spec_Felt.l1]
    rw [if_pos (by omega), if_pos (by omega), if_pos (by omega), if_pos (by omega), if_pos (by omega), rdM ms j' hj', rdI rs i hir, w64 (a := ms[j'].f1 - m) (by omega), w64 (a := ms[j'].f1 + m) (by omega), w64 (a := (j' : Int) + 1) (by omega), spec_l1in_eq]
    rw [List.drop_eq_getElem_cons hj'] at hR
    simp only [seen_cons] at hR
    simp only [Option.bind_some]
    by_cases h4 : rs[i] = 1
    · rw [if_pos h4]
      simp only [h4, if_true] at hR ih
      by_cases h : near m at_ ms[j'] = true
      · have h' : -m ≤ ms[j'].f1 - at_ ∧ ms[j'].f1 - at_ ≤ m := of_decide_eq_true h
        rw [decide_eq_true (show ms[j'].f1 - m ≤ at_ ∧ at_ ≤ ms[j'].f1 + m by omega), if_pos rfl, if_pos (by omega)]
        simp only [h, if_true] at hR
        exact ih k (j' + 1) _ (by omega) (by omega) (by simp; omega) (fun k' hk' => by rw [List.append_assoc]; exact hR k' hk')
      · have h' : ¬ (-m ≤ ms[j'].f1 - at_ ∧ ms[j'].f1 - at_ ≤ m) := fun q => h (decide_eq_true q)
        rw [decide_eq_false (show ¬ (ms[j'].f1 - m ≤ at_ ∧ at_ ≤ ms[j'].f1 + m) by omega), if_neg (by decide)]
        simp only [h, if_false, List.nil_append, Bool.false_eq_true] at hR
        exact ih k (j' + 1) _ (by omega) (by omega) (by omega) hR
    · rw [if_neg h4]
      simp only [h4, if_false] at hR ih
      exact ih k (j' + 1) _ (by omega) (by omega) (by omega) hR
theorem spec_Felt_loop {s j m l o : Int} (hm : 0 ≤ m ∧ m ≤ 10000) (ms : List S37) (hms : marksB ms = true) (ts : List S90) (hts : ts.length ≤ 2000) (rs : List Int) (hrs : rs.length = ts.length) (d : Nat) :
    ∀ (k i : Nat) (at_ : Int) (out : List S34), i + d = ts.length → d * (ms.length + 3) + 1 ≤ k → (0 ≤ at_ ∧ at_ ≤ 100000000) → out.length ≤ i * (ms.length + 1) →
      spec_Felt.l0 k ms at_ rs out ts (ts.length : Int) (i : Int) s j m l o = some (feltGo m ms at_ out (ts.drop i) (rs.drop i)) := by
  have hml := marks_len hms
  induction d with
  | zero =>
    intro k i at_ out hi hk ha ho
    obtain ⟨k, rfl⟩ : ∃ q, k = q + 1 := ⟨k - 1, by omega⟩
    simp only [spec_Felt.l0]
    rw [if_neg (by omega), List.drop_of_length_le (show ts.length ≤ i by omega), feltGo_nil]
    split <;> rfl
  | succ d ih =>
    intro k i at_ out hi hk ha ho
    rw [Nat.succ_mul] at hk
    generalize hq : d * (ms.length + 3) = q at hk ih
    obtain ⟨k, rfl⟩ : ∃ q, k = q + 1 := ⟨k - 1, by omega⟩
    have hit : i < ts.length := by omega
    have hir : i < rs.length := by omega
    have hol : out.length ≤ 1000000 := Nat.le_trans ho (Nat.le_trans (Nat.mul_le_mul (show i ≤ 2000 by omega) (show ms.length + 1 ≤ 101 by omega)) (by omega))
    simp only [spec_Felt.l0, l4true_eq, Option.bind_some, decide_eq_true_eq]
    rw [if_pos (by omega), if_pos (by omega), if_pos (by omega), rdT ts i hit, List.drop_eq_getElem_cons hit, List.drop_eq_getElem_cons hir]
    simp only [feltGo]
    generalize ts[i] = t
    by_cases h1 : tickR t
    · rw [if_pos h1, if_pos h1, w64 (a := at_ + t.f0) (by omega)]
      by_cases h3 : at_ + t.f0 > 100000000
      · rw [if_pos h3, if_pos h3]
      · rw [if_neg h3, if_neg h3, if_pos (by omega)]
        have hlen2 : ∀ z : List S34, z.length ≤ ms.length → (out ++ [(⟨1, t.f1⟩ : S34)] ++ z).length ≤ (i + 1) * (ms.length + 1) := by
          intro z hz
          rw [Nat.succ_mul, List.length_append, List.length_append]
          simp only [List.length_singleton]
          omega
        exact spec_Felt_inner (s := s) (j := j) (l := l) (o := o) hm ms hms ts rs (at_ + t.f0) (by omega) i (by omega) hir (q + 1) _ ms.length k 0 (out ++ [⟨1, t.f1⟩]) (by omega) (by omega) (by simp; omega) (fun k' hk' => by
          rw [List.drop_zero]
          have := ih k' (i + 1) (at_ + t.f0) (out ++ [⟨1, t.f1⟩] ++ (if rs[i] = 1 then seen m (at_ + t.f0) ms else [])) (by omega) (by omega) (by omega) (hlen2 (if rs[i] = 1 then seen m (at_ + t.f0) ms else []) (by split <;> first | exact seen_len .. | simp))
          rwa [show ((i + 1 : Nat) : Int) = (i : Int) + 1 by omega] at this)
    · rw [if_neg h1, if_neg h1]
theorem spec_Felt_eq (s j m l o : Int) (ms : List S37) (hns : ms.length ≤ 9000000000000) (at_ : Int) (ts : List S90) (rs : List Int) (hn : rs.length ≤ 9000000000000) (hn2 : ts.length ≤ 9000000000000) {k : Nat} (hk : ms.length * (ms.length + 3) + 210000 ≤ k) :
    spec_Felt.f k s j m l o ms at_ ts rs = some (feltV s j m l o ms at_ ts rs) := by
  simp only [spec_Felt.f, spec_RulesOk_eq, spec_MarksOk_eq ms hns (show ms.length * (ms.length + 3) + 1 ≤ k by omega), spec_l1in_eq, Option.bind_some, decide_eq_true_eq]
  obtain ⟨k, rfl⟩ : ∃ q, k = q + 1 := ⟨k - 1, by omega⟩
  simp only [spec_Felt.j0, if_true, feltV]
  by_cases hr : okR s j m l o
  · rw [if_pos hr]
    by_cases hm : marksB ms = true
    · rw [if_pos hm]
      by_cases ha : 0 ≤ at_ ∧ at_ ≤ 100000000
      · rw [if_pos ha]
        by_cases ht : ts.length ≤ 2000
        · rw [if_neg (show ¬ (ts.length : Int) > 2000 by omega)]
          by_cases hl : rs.length = ts.length
          · rw [if_pos (show okR s j m l o ∧ marksB ms = true ∧ (0 ≤ at_ ∧ at_ ≤ 100000000) ∧ ts.length ≤ 2000 ∧ rs.length = ts.length from ⟨hr, hm, ha, ht, hl⟩), hl]
            simp only [bne_self_eq_false, Bool.false_eq_true, if_false]
            have hml := marks_len hm
            have hb : ts.length * (ms.length + 3) ≤ 2000 * 103 := Nat.mul_le_mul ht (by omega)
            have := spec_Felt_loop (s := s) (j := j) (l := l) (o := o) (m := m) (by omega) ms hm ts ht rs hl ts.length k 0 at_ [] (by omega) (by omega) ha (by simp)
            simpa using this
          · rw [if_neg (show ¬ (okR s j m l o ∧ marksB ms = true ∧ (0 ≤ at_ ∧ at_ ≤ 100000000) ∧ ts.length ≤ 2000 ∧ rs.length = ts.length) from fun h => hl h.2.2.2.2), if_pos]
            rw [bne_iff_ne]
            omega
        · rw [if_pos (show (ts.length : Int) > 2000 by omega), if_neg (show ¬ (okR s j m l o ∧ marksB ms = true ∧ (0 ≤ at_ ∧ at_ ≤ 100000000) ∧ ts.length ≤ 2000 ∧ rs.length = ts.length) from fun h => ht h.2.2.2.1)]
      · rw [if_neg ha, if_neg (show ¬ (okR s j m l o ∧ marksB ms = true ∧ (0 ≤ at_ ∧ at_ ≤ 100000000) ∧ ts.length ≤ 2000 ∧ rs.length = ts.length) from fun h => ha h.2.2.1)]
    · rw [if_neg hm, if_neg (show ¬ (okR s j m l o ∧ marksB ms = true ∧ (0 ≤ at_ ∧ at_ ≤ 100000000) ∧ ts.length ≤ 2000 ∧ rs.length = ts.length) from fun h => hm h.2.1)]
  · rw [if_neg hr, if_neg (show ¬ (okR s j m l o ∧ marksB ms = true ∧ (0 ≤ at_ ∧ at_ ≤ 100000000) ∧ ts.length ≤ 2000 ∧ rs.length = ts.length) from fun h => hr h.1)]
theorem feltGo_len (m : Int) (ms : List S37) : ∀ (ts : List S90) (rs : List Int) (at_ : Int) (out : List S34), (feltGo m ms at_ out ts rs).length ≤ 2000
  | [], rs, at_, out => by rw [feltGo_nil]; split <;> first | omega | simp
  | t :: ts, [], at_, out => by show (if (out.length : Int) > 2000 then [] else out).length ≤ 2000; split <;> first | omega | simp
  | t :: ts, r :: rs, at_, out => by
    simp only [feltGo]
    split
    · split
      · simp
      · exact feltGo_len m ms ts rs _ _
    · simp
theorem feltV_len (s j m l o : Int) (ms : List S37) (at_ : Int) (ts : List S90) (rs : List Int) : (feltV s j m l o ms at_ ts rs).length ≤ 2000 := by
  unfold feltV
  split
  · exact feltGo_len ..
  · simp
theorem FnExactFelt (s j m l o : Int) (ms : List S106) (at_ : Int) (ts : List S119) (rs : List Int) (_ : (Lit.int .i64 s).wf = true) (_ : (Lit.int .i64 j).wf = true) (_ : (Lit.int .i64 m).wf = true) (_ : (Lit.int .i64 l).wf = true) (_ : (Lit.int .i64 o).wf = true)
    (hy1 : ms.length * 16 ≤ 140737488351232) (_ : ∀ x ∈ ms, (Lit.int .i64 x.f0).wf = true ∧ (Lit.int .i64 x.f1).wf = true) (_ : (Lit.int .i64 at_).wf = true) (hy2 : ts.length * 16 ≤ 140737488351232) (_ : ∀ x ∈ ts, (Lit.int .i64 x.f0).wf = true ∧ (Lit.int .i64 x.f1).wf = true)
    (hy3 : rs.length * 8 ≤ 140737488351232) (_ : ∀ x ∈ rs, (Lit.int .i64 x).wf = true) : ∃ k, laws_FnExactFelt.f k s j m l o ms at_ ts rs = some true := by
  suffices main : ∀ k, ms.length * (ms.length + 3) + 3000000 ≤ k → laws_FnExactFelt.f (k + 1) s j m l o ms at_ ts rs = some true from ⟨_, main _ (Nat.le_refl _)⟩
  intro k hk
  unfold laws_FnExactFelt.f
  by_cases h1 : (rs.length : Int) > 1048576
  · rw [if_pos h1]
  · rw [if_neg h1, szMarkS_eq ms (by omega) 1048576 (by omega)]
    simp only [Option.bind_some]
    by_cases h2 : (ms.length : Int) ≤ 1048576
    · rw [if_pos h2, if_neg (by omega), szTrueS_eq ts (by omega) _ (by omega)]
      simp only [Option.bind_some]
      by_cases h3 : (ts.length : Int) ≤ 1048576 - (ms.length : Int)
      · have em : (ms.map cMark).length = ms.length := List.length_map ..
        have et : (ts.map cTrue).length = ts.length := List.length_map ..
        generalize hK : ms.length * (ms.length + 3) = K at hk
        rw [if_pos h3, if_neg (by omega)]
        simp only [laws_toRules.f, toMarkS_eq ms (show ms.length ≤ 1048576 by omega) (show ms.length < k + 1 by omega), toTrueS_eq ts (show ts.length ≤ 1048576 by omega) (show ts.length < k + 1 by omega), toIntS_eq rs (show rs.length ≤ 1048576 by omega) (show rs.length < k + 1 by omega), Option.bind_some]
        rw [spec_Felt_eq s j m l o (ms.map cMark) (by omega) at_ (ts.map cTrue) rs (by omega) (by omega) (by rw [em, hK]; omega), impl_Felt_eq s j m l o (ms.map cMark) at_ (ts.map cTrue) rs (by omega) (by omega) (by omega)]
        simp only [Option.bind_some]
        have hv := feltV_len s j m l o (ms.map cMark) at_ (ts.map cTrue) rs
        have hF : impl_Felt.f (k) s j m l o (ms.map cMark) at_ (ts.map cTrue) rs = some (feltV s j m l o (ms.map cMark) at_ (ts.map cTrue) rs) := impl_Felt_eq s j m l o (ms.map cMark) at_ (ts.map cTrue) rs (by omega) (by omega) (by omega)
        generalize feltV s j m l o (ms.map cMark) at_ (ts.map cTrue) rs = V at hv hF ⊢
        rw [eqEventS_refl V (by omega) (by omega)]
        simp only [if_true, Option.bind_some]
        rw [eqMarkS_refl (ms.map cMark) (by omega) (by omega)]
        simp only [if_true, Option.bind_some]
        rw [eqTrueS_refl (ts.map cTrue) (by omega) (by omega)]
        simp only [if_true, Option.bind_some]
        rw [eqIntS_refl rs (by omega) (by omega)]
        simp only [if_true, Option.bind_some]
        obtain ⟨q1, e1⟩ := markMarkS_loop (ms.map cMark).length (k + 1) 0 (ms.map cMark) 1 (by omega) (by omega) (by omega) (by omega) (by omega)
        obtain ⟨q2, e2⟩ := markTrueS_loop (ts.map cTrue).length (k + 1) 0 (ts.map cTrue) (1 + 2 * ((ms.map cMark).length : Int)) (by omega) (by omega) (by omega) (by omega) (by omega)
        obtain ⟨q3, e3⟩ := markIntS_loop rs.length (k + 1) 0 rs (1 + 2 * ((ms.map cMark).length : Int) + 2 * ((ts.map cTrue).length : Int)) (by omega) (by omega) (by omega) (by omega) (by omega)
        have hm1 : laws_markMarkS.f (k + 1) (ms.map cMark) 1 = some (1 + 2 * ((ms.map cMark).length : Int), q1) := e1
        have hm2 : laws_markTrueS.f (k + 1) (ts.map cTrue) (1 + 2 * ((ms.map cMark).length : Int)) = some (1 + 2 * ((ms.map cMark).length : Int) + 2 * ((ts.map cTrue).length : Int), q2) := e2
        have hm3 : laws_markIntS.f (k + 1) rs (1 + 2 * ((ms.map cMark).length : Int) + 2 * ((ts.map cTrue).length : Int)) = some (1 + 2 * ((ms.map cMark).length : Int) + 2 * ((ts.map cTrue).length : Int) + (rs.length : Int), q3) := e3
        rw [hm1]
        simp only [Option.bind_some]
        rw [hm2]
        simp only [Option.bind_some]
        rw [hm3]
        simp only [Option.bind_some]
        rw [if_neg (by omega)]
        have e4 := markEventS_loop V (by omega) V.length (k) 0 (by omega) (by omega)
        have e5 := heldEventS_loop V.length (by omega) V.length (k) 0 (by omega) (by omega)
        have hm4 : laws_markEventS.f (k) V 1 = some (1 + 2 * (V.length : Int), mkE V.length) := by
          simpa [mkE, laws_markEventS.f] using e4
        have hm5 : laws_heldEventS.f (k) (mkE V.length) 1 = some (1 + 2 * (V.length : Int)) := by
          simpa [laws_heldEventS.f] using e5
        simp only [laws_FnExactFelt.j0, Bool.not_true, Bool.false_eq_true, if_false]
        rw [hm4]
        simp only [Option.bind_some]
        rw [hm5]
        simp only [Option.bind_some]
        rw [if_neg (by omega), if_pos trivial]
        simp only [laws_toRules.f, toMarkS_eq ms (show ms.length ≤ 1048576 by omega) (show ms.length < k by omega), toTrueS_eq ts (show ts.length ≤ 1048576 by omega) (show ts.length < k by omega), toIntS_eq rs (show rs.length ≤ 1048576 by omega) (show rs.length < k by omega), Option.bind_some]
        rw [hF]
        simp only [Option.bind_some]
        rw [eqEventS_refl V (by omega) (by omega)]
        simp only [if_true, Option.bind_some]
        rw [if_neg (by omega)]
      · rw [if_neg h3]
        rfl
    · rw [if_neg h2]
      rfl
end Go.Proofs.Ytommdabkkgcgbaa.Pure
