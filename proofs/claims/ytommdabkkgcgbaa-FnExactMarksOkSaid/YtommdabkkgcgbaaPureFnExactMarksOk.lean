/- The plain law of laws.FnExactMarksOk: what the printed functions compute answers true at every input, in plain Lean, without Go and memory. Its conditions: each number is an int64, each slice takes fewer than 2^47 bytes. -/
import Derived.Test.YtommdabkkgcgbaaQFnExactMarksOkx2
namespace Go.Proofs.Ytommdabkkgcgbaa.Pure
open Go.RowKit Go.Proofs.Ytommdabkkgcgbaa.QFnExactMarksOk Go.Proofs.YtommdabkkgcgbaaW.PrintWords Go.Proofs.YtommdabkkgcgbaaW.PrintLast Go.Proofs.YtommdabkkgcgbaaW.PrintMore
set_option linter.unusedVariables false
set_option linter.unusedSimpArgs false
theorem sd {p : Prop} [Decidable p] {b : Bool} (h : b = true ↔ p) : some b = some (decide p) := by
  cases b <;> simp_all
abbrev okR (s j m l o : Int) : Prop := 0 ≤ s ∧ s ≤ 500 ∧ 0 ≤ j ∧ j ≤ 1000 ∧ 0 ≤ m ∧ m ≤ 10000 ∧ 1 ≤ l ∧ l ≤ 1000000 ∧ 0 ≤ o ∧ o ≤ 10000
abbrev okB (a b : Int) : Prop := -100000000 ≤ a ∧ a ≤ b ∧ b ≤ 100000000
abbrev okE (op n : Int) : Prop := (op = 1 ∧ 0 ≤ n ∧ n ≤ 100000) ∨ (op = 2 ∧ 1 ≤ n ∧ n ≤ 1000000000) ∨ ((op = 3 ∨ op = 4) ∧ n = 0)
theorem wf64 {a : Int} (h : (Lit.int .i64 a).wf = true) : -9223372036854775808 ≤ a ∧ a ≤ 9223372036854775807 := by
  have h' := h
  simp [Lit.wf, IntKind.min, IntKind.max, IntKind.signed, IntKind.bits] at h'
  omega
theorem spec_l1in_eq (x a b : Int) : spec_l1in.f x a b = some (decide (a ≤ x ∧ x ≤ b)) := by
  unfold spec_l1in.f
  split <;> (apply sd; simp only [decide_eq_true_eq, Bool.false_eq_true, false_iff]; omega)
theorem impl_in_eq (x a b : Int) : impl_in.f x a b = some (decide (a ≤ x ∧ x ≤ b)) := by
  unfold impl_in.f
  split <;> (apply sd; simp only [decide_eq_true_eq, Bool.false_eq_true, false_iff]; omega)
theorem w64 {a : Int} (h : -9223372036854775808 ≤ a ∧ a ≤ 9223372036854775807) : wrap64 a = a := by unfold wrap64; omega
/-- The least and the most that wheels can have come, in closed form. -/
def lst (s j c : Int) : Int := if 0 < c - j then (1000 * (c - j) + 999 + s) / (1000 + s) else 0
def mst (s j c : Int) : Int := 1000 * (c + j) / (1000 - s)
def stay (x : Int) : Int := max (-100000000) (min x 100000000)
theorem lst_le_iff {s j c x : Int} (hs : 0 ≤ s) (hx : 0 ≤ x) : lst s j c ≤ x ↔ 1000 * (c - j) ≤ 1000 * x + s * x := by
  have hp : 0 ≤ s * x := Int.mul_nonneg hs hx
  unfold lst
  split
  · rw [← Int.lt_add_one_iff, Int.ediv_lt_iff_lt_mul (by omega)]
    have e : (x + 1) * (1000 + s) = 1000 * x + s * x + 1000 + s := by
      rw [Int.add_mul, Int.mul_add, Int.mul_comm x 1000, Int.mul_comm x s]; omega
    rw [e]
    omega
  · constructor
    · intro _; omega
    · intro _; exact hx
theorem lst_nonneg {s j c : Int} (hs : 0 ≤ s) : 0 ≤ lst s j c := by
  unfold lst
  split
  · exact Int.ediv_nonneg (by omega) (by omega)
  · omega
theorem le_mst_iff {s j c x : Int} (hs : s ≤ 500) : x ≤ mst s j c ↔ 1000 * x - s * x ≤ 1000 * (c + j) := by
  unfold mst
  rw [Int.le_ediv_iff_mul_le (by omega)]
  have e : x * (1000 - s) = 1000 * x - s * x := by rw [Int.mul_sub, Int.mul_comm x 1000, Int.mul_comm x s]
  rw [e]
theorem mst_le {s j c : Int} (h0 : 0 ≤ s) (hs : s ≤ 500) (hj : 0 ≤ j ∧ j ≤ 1000) (hc : 0 ≤ c ∧ c ≤ 100000) : mst s j c ≤ 202000 := by
  unfold mst
  rw [← Int.lt_add_one_iff, Int.ediv_lt_iff_lt_mul (by omega)]
  omega
theorem lst_le {s j c : Int} (h0 : 0 ≤ s) (hj : 0 ≤ j) (hc : 0 ≤ c) : lst s j c ≤ c := by
  have hp : 0 ≤ s * c := Int.mul_nonneg h0 hc
  rw [lst_le_iff h0 hc]; omega
theorem le_mst {s j c : Int} (h0 : 0 ≤ s) (hs : s ≤ 500) (hj : 0 ≤ j) (hc : 0 ≤ c) : c ≤ mst s j c := by
  have hp : 0 ≤ s * c := Int.mul_nonneg h0 hc
  rw [le_mst_iff hs]; omega
theorem sx_bd {s x : Int} (h0 : 0 ≤ s) (hs : s ≤ 500) (hx : 0 ≤ x) (hx2 : x ≤ 300000) : 0 ≤ s * x ∧ s * x ≤ 150000000 := by
  refine ⟨Int.mul_nonneg h0 hx, ?_⟩
  have := Int.mul_le_mul hs hx2 hx (by omega)
  omega
abbrev fairP (s j x c : Int) : Prop := 1000 * (x - c) ≤ s * x + 1000 * j ∧ 1000 * (c - x) ≤ s * x + 1000 * j
/-- What Wheel answers. -/
def wheelV (s j m l o a b c : Int) : Int × Int := if okR s j m l o ∧ okB a b ∧ (0 ≤ c ∧ c ≤ 100000) then (stay (a + lst s j c), stay (b + mst s j c)) else (0, 0)
/-- What Read answers. -/
def readV (s j m l o a b x : Int) : Int × Int :=
  if okR s j m l o ∧ okB a b ∧ (0 ≤ x ∧ x ≤ 100000000) then
    (if a ≤ stay (x + m) ∧ stay (x - m) ≤ b then (max a (stay (x - m)), min b (stay (x + m))) else (min a (stay (x - m)), max b (stay (x + m)))) else (0, 0)
theorem rd_Mark (xs : List S37) (i : Nat) (h : i < xs.length) : rd_T37 xs (i : Int) = xs[i] := by
  simp [rd_T37, List.getD_eq_getElem?_getD, h]
theorem rdl_Mark (xs : List S106) (i : Nat) (h : i < xs.length) : rd_T106 xs (i : Int) = xs[i] := by
  simp [rd_T106, List.getD_eq_getElem?_getD, h]
/-- The copy of an element. -/
def cMark (x : S106) : S37 := ⟨x.f0, x.f1⟩
theorem toMarkS_loop (l : List S106) (hn : l.length ≤ 9000000000000000) (d : Nat) : ∀ (k i : Nat), i + d = l.length → d < k → laws_toMarkS.l0 k l ((l.take i).map cMark ++ List.replicate d z37) (i : Int) = some (l.map cMark) := by
  induction d with
  | zero =>
    intro k i hi hk
    obtain ⟨k, rfl⟩ : ∃ m, k = m + 1 := ⟨k - 1, by omega⟩
    simp only [laws_toMarkS.l0]
    rw [if_neg (by omega), List.take_of_length_le (by omega)]
    simp
  | succ d ih =>
    intro k i hi hk
    obtain ⟨k, rfl⟩ : ∃ m, k = m + 1 := ⟨k - 1, by omega⟩
    simp only [laws_toMarkS.l0]
    rw [if_pos (by omega), if_pos (by omega), rdl_Mark l i (by omega)]
    simp only [laws_toMark.f, Option.bind_some]
    have hlen : ((l.take i).map cMark).length = i := by simp; omega
    rw [if_pos (by simp; omega), w64 (a := (i : Int) + 1) (by omega)]
    have e : ((l.take i).map cMark ++ List.replicate (d + 1) z37).set ((i : Int)).toNat ⟨l[i].f0, l[i].f1⟩ = (l.take (i + 1)).map cMark ++ List.replicate d z37 := by
      rw [List.set_append, Int.toNat_natCast, if_neg (by omega), hlen, Nat.sub_self, List.replicate_succ, List.set_cons_zero, List.take_succ_eq_append_getElem (by omega), List.map_append, List.append_assoc]
      rfl
    rw [e]
    exact ih k (i + 1) (by omega) (by omega)
theorem toMarkS_eq (l : List S106) (hn : l.length ≤ 1048576) {k : Nat} (hk : l.length < k) : laws_toMarkS.f k l = some (l.map cMark) := by
  unfold laws_toMarkS.f
  rw [if_pos (by omega), if_pos (by omega), Int.toNat_natCast]
  exact toMarkS_loop l (by omega) l.length k 0 (by omega) hk
theorem eqMarkS_loop (l : List S37) (hn : l.length ≤ 9000000000000000) (d : Nat) : ∀ (k i : Nat), i + d = l.length → d < k → laws_eqMarkS.l0 k l l (i : Int) = some true := by
  induction d with
  | zero =>
    intro k i hi hk
    obtain ⟨k, rfl⟩ : ∃ m, k = m + 1 := ⟨k - 1, by omega⟩
    simp only [laws_eqMarkS.l0]
    rw [if_neg (by omega)]
  | succ d ih =>
    intro k i hi hk
    obtain ⟨k, rfl⟩ : ∃ m, k = m + 1 := ⟨k - 1, by omega⟩
    simp only [laws_eqMarkS.l0]
    rw [if_pos (by omega), if_pos (by omega), if_pos (by omega), w64 (a := (i : Int) + 1) (by omega)]
    simp only [laws_eqMark.f, if_true, Option.bind_some]
    exact ih k (i + 1) (by omega) (by omega)
theorem eqMarkS_refl (l : List S37) (hn : l.length ≤ 9000000000000000) {k : Nat} (hk : l.length < k) : laws_eqMarkS.f k l l = some true := by
  unfold laws_eqMarkS.f
  rw [if_pos rfl]
  exact eqMarkS_loop l hn l.length k 0 (by omega) hk
theorem szMarkS_eq (l : List S106) (hn : l.length ≤ 9000000000000000) (a : Int) (ha : 0 ≤ a ∧ a ≤ 1048576) : laws_szMarkS.f l a = some (if (l.length : Int) ≤ a then a - l.length else -1) := by
  unfold laws_szMarkS.f
  rw [w64 (a := a - (l.length : Int)) (by omega)]
  (repeat' split) <;> first | rfl | omega
theorem impl_MarksOk_eq (l : List S37) : impl_MarksOk.f l = some (marksB l) := rfl
theorem marksB_false {l : List S37} {i : Nat} (hi : i < l.length) (h : okAt l i = false) : marksB l = false := by
  unfold marksB
  rw [Bool.and_eq_false_iff]
  right
  rw [List.all_eq_false]
  exact ⟨i, List.mem_range.2 hi, by rw [h]; decide⟩
theorem okAt_of {l : List S37} (h : marksB l = true) {i : Nat} (hi : i < l.length) : okAt l i = true := by
  unfold marksB at h
  rw [Bool.and_eq_true, List.all_eq_true] at h
  exact h.2 i (List.mem_range.2 hi)
theorem marks_len {l : List S37} (h : marksB l = true) : l.length ≤ 100 := by
  unfold marksB at h
  rw [Bool.and_eq_true] at h
  exact of_decide_eq_true h.1
theorem okAt_range {l : List S37} {i : Nat} (h : okAt l i = true) : (1 ≤ (rd_T37 l (i : Int)).f0 ∧ (rd_T37 l (i : Int)).f0 ≤ 1000000000) ∧ (0 ≤ (rd_T37 l (i : Int)).f1 ∧ (rd_T37 l (i : Int)).f1 ≤ 100000000) := by
  unfold okAt at h
  simp only [Bool.and_eq_true, decide_eq_true_eq] at h
  exact ⟨h.1.1.1, h.1.2⟩
theorem spec_MarksOk_inner (l : List S37) (hn : l.length ≤ 9000000000000) (i : Nat) (hi : i < l.length) (M : Nat) (R : Bool) (x y : Int) (hR : ∀ k, M ≤ k → spec_MarksOk.l0 k l l (l.length : Int) ((i : Int) + 1) = some R) (e : Nat) :
    ∀ (k j : Nat), j + e = i → hadB l j x = false → M + e + 1 ≤ k → spec_MarksOk.l1 k l (i : Int) (j : Int) l (l.length : Int) (i : Int) x y = some (if hadB l i x = true then false else R) := by
  induction e with
  | zero =>
    intro k j hj hh hk
    obtain ⟨k, rfl⟩ : ∃ m, k = m + 1 := ⟨k - 1, by omega⟩
    obtain rfl : j = i := by omega
    simp only [spec_MarksOk.l1]
    rw [if_neg (by omega), w64 (a := (j : Int) + 1) (by omega), hR k (by omega), hh]
    rfl
  | succ e ih =>
    intro k j hj hh hk
    obtain ⟨k, rfl⟩ : ∃ m, k = m + 1 := ⟨k - 1, by omega⟩
    simp only [spec_MarksOk.l1]
    rw [if_pos (by omega), if_pos (by omega), if_pos (by omega), w64 (a := (j : Int) + 1) (by omega)]
    by_cases h : (rd_T37 l (j : Int)).f0 = x
    · rw [if_pos h]
      have : hadB l i x = true := by
        unfold hadB
        rw [List.any_eq_true]
        exact ⟨j, List.mem_range.2 (by omega), by rw [h]; simp⟩
      rw [this]
      rfl
    · rw [if_neg h]
      refine ih k (j + 1) (by omega) ?_ (by omega)
      rw [hadB_succ, hh]
      simp [h]
theorem spec_MarksOk_loop (l : List S37) (hn : l.length ≤ 9000000000000) (d : Nat) :
    ∀ (k i : Nat), i + d = l.length → d * (l.length + 3) + 1 ≤ k → (∀ j, j < i → okAt l j = true) → spec_MarksOk.l0 k l l (l.length : Int) (i : Int) = some (marksB l) := by
  induction d with
  | zero =>
    intro k i hi hk hok
    obtain ⟨k, rfl⟩ : ∃ m, k = m + 1 := ⟨k - 1, by omega⟩
    simp only [spec_MarksOk.l0]
    rw [if_neg (by omega)]
    unfold marksB
    have : (List.range l.length).all (okAt l) = true := by
      rw [List.all_eq_true]
      intro j hj
      exact hok j (by have := List.mem_range.1 hj; omega)
    rw [this, Bool.and_true]
    exact congrArg some (decide_eq_decide.2 (by omega))
  | succ d ih =>
    intro k i hi hk hok
    rw [Nat.succ_mul] at hk
    generalize hq : d * (l.length + 3) = q at hk ih
    obtain ⟨k, rfl⟩ : ∃ m, k = m + 2 := ⟨k - 2, by omega⟩
    have hil : i < l.length := by omega
    have fin : ∀ (b : Bool), (b = true → okAt l i = false) → (b = false → (decide (1 ≤ (rd_T37 l (i : Int)).f0 ∧ (rd_T37 l (i : Int)).f0 ≤ 1000000000) && decide (0 ≤ (rd_T37 l (i : Int)).f1 ∧ (rd_T37 l (i : Int)).f1 ≤ 100000000) && (decide (i = 0) || decide ((rd_T37 l ((i : Int) - 1)).f1 < (rd_T37 l (i : Int)).f1))) = true) →
        spec_MarksOk.j1 (k + 1) l (i : Int) l (l.length : Int) (i : Int) b (rd_T37 l (i : Int)).f0 (rd_T37 l (i : Int)).f1 = some (marksB l) := by
      intro b h1 h2
      simp only [spec_MarksOk.j1]
      cases b with
      | true => rw [if_pos rfl, marksB_false hil (h1 rfl)]
      | false =>
        rw [if_neg (by decide)]
        have hb := h2 rfl
        by_cases hh : hadB l i (rd_T37 l (i : Int)).f0 = true
        · have hm : marksB l = false := marksB_false hil (by unfold okAt; rw [hh]; simp)
          have := spec_MarksOk_inner l hn i hil k false (rd_T37 l (i : Int)).f0 (rd_T37 l (i : Int)).f1
          clear this
          -- a name that was had: the inner loop ends in false, whatever comes behind
          have ends : ∀ (e k' j : Nat), j + e = i → hadB l j (rd_T37 l (i : Int)).f0 = false → e + 1 ≤ k' → spec_MarksOk.l1 k' l (i : Int) (j : Int) l (l.length : Int) (i : Int) (rd_T37 l (i : Int)).f0 (rd_T37 l (i : Int)).f1 = some false := by
            intro e
            induction e with
            | zero =>
              intro k' j hj hnot _
              obtain rfl : j = i := by omega
              rw [hh] at hnot
              cases hnot
            | succ e ihe =>
              intro k' j hj hnot hk'
              obtain ⟨k', rfl⟩ : ∃ m, k' = m + 1 := ⟨k' - 1, by omega⟩
              simp only [spec_MarksOk.l1]
              rw [if_pos (by omega), if_pos (by omega), if_pos (by omega), w64 (a := (j : Int) + 1) (by omega)]
              by_cases h : (rd_T37 l (j : Int)).f0 = (rd_T37 l (i : Int)).f0
              · rw [if_pos h]
              · rw [if_neg h]
                refine ihe k' (j + 1) (by omega) ?_ (by omega)
                rw [hadB_succ, hnot]
                simp [h]
          rw [hm]
          exact ends i k 0 (by omega) (by simp [hadB]) (by omega)
        · have hh' : hadB l i (rd_T37 l (i : Int)).f0 = false := by simpa using hh
          have hok' : okAt l i = true := by
            unfold okAt
            rw [hh']
            simp only [Bool.and_eq_true] at hb ⊢
            exact ⟨⟨⟨hb.1.1, rfl⟩, hb.1.2⟩, hb.2⟩
          have := spec_MarksOk_inner l hn i hil (q + 1) (marksB l) (rd_T37 l (i : Int)).f0 (rd_T37 l (i : Int)).f1 (fun k' hk' => by
            have := ih k' (i + 1) (by omega) (by omega) (fun j hj => by
              rcases Nat.lt_or_ge j i with h | h
              · exact hok j h
              · obtain rfl : j = i := by omega
                exact hok')
            rwa [show ((i + 1 : Nat) : Int) = (i : Int) + 1 by omega] at this) i k 0 (by omega) (by simp [hadB]) (by omega)
          rw [hh', if_neg (by decide)] at this
          exact this
    simp only [spec_MarksOk.l0, spec_l1in_eq, Option.bind_some]
    rw [if_pos (by omega), if_pos (by omega), if_pos (by omega)]
    by_cases hat : 0 ≤ (rd_T37 l (i : Int)).f1 ∧ (rd_T37 l (i : Int)).f1 ≤ 100000000
    · rw [decide_eq_true hat, if_pos rfl]
      by_cases h0 : (i : Int) > 0
      · rw [if_pos h0, w64 (a := (i : Int) - 1) (by omega), if_pos (by omega), if_pos (by omega)]
        by_cases hp : (rd_T37 l (i : Int)).f1 ≤ (rd_T37 l ((i : Int) - 1)).f1
        · rw [if_pos hp]
          exact fin true (fun _ => by unfold okAt; rw [decide_eq_false (show ¬ i = 0 by omega), decide_eq_false (show ¬ (rd_T37 l ((i : Int) - 1)).f1 < (rd_T37 l (i : Int)).f1 by omega)]; simp) (fun h => by cases h)
        · rw [if_neg hp]
          refine fin _ (fun h => ?_) (fun h => ?_)
          · unfold okAt
            rw [show decide (1 ≤ (rd_T37 l (i : Int)).f0 ∧ (rd_T37 l (i : Int)).f0 ≤ 1000000000) = false by simpa only [Bool.not_eq_true'] using h]
            rfl
          · rw [decide_eq_true (show 1 ≤ (rd_T37 l (i : Int)).f0 ∧ (rd_T37 l (i : Int)).f0 ≤ 1000000000 by simpa using h), decide_eq_true hat, decide_eq_true (show (rd_T37 l ((i : Int) - 1)).f1 < (rd_T37 l (i : Int)).f1 by omega)]
            simp
      · rw [if_neg h0]
        refine fin _ (fun h => ?_) (fun h => ?_)
        · unfold okAt
          rw [show decide (1 ≤ (rd_T37 l (i : Int)).f0 ∧ (rd_T37 l (i : Int)).f0 ≤ 1000000000) = false by simpa only [Bool.not_eq_true'] using h]
          rfl
        · rw [decide_eq_true (show 1 ≤ (rd_T37 l (i : Int)).f0 ∧ (rd_T37 l (i : Int)).f0 ≤ 1000000000 by simpa using h), decide_eq_true hat, decide_eq_true (show i = 0 by omega)]
          rfl
    · rw [decide_eq_false hat, if_neg (by decide)]
      exact fin true (fun _ => by unfold okAt; rw [decide_eq_false hat]; simp) (fun h => by cases h)
theorem spec_MarksOk_eq (l : List S37) (hn : l.length ≤ 9000000000000) {k : Nat} (hk : l.length * (l.length + 3) + 1 ≤ k) : spec_MarksOk.f k l = some (marksB l) := by
  unfold spec_MarksOk.f
  exact spec_MarksOk_loop l hn l.length k 0 (by omega) hk (fun j hj => by omega)
/-- The rounds that suffice for a list of n marks. -/
def Kn (n : Nat) : Nat := n * (n + 3) + 2 * n + 300000
theorem FnExactMarksOk (l : List S106) (hy : l.length * 16 ≤ 140737488351232) (_ : ∀ x ∈ l, (Lit.int .i64 x.f0).wf = true ∧ (Lit.int .i64 x.f1).wf = true) : ∃ k, laws_FnExactMarksOk.f k l = some true := by
  refine ⟨Kn l.length, ?_⟩
  unfold laws_FnExactMarksOk.f
  rw [szMarkS_eq l (by omega) 1048576 (by omega)]
  simp only [Option.bind_some]
  by_cases h : (l.length : Int) ≤ 1048576
  · have hm : (l.map cMark).length = l.length := List.length_map ..
    have hK : l.length < Kn l.length ∧ l.length * (l.length + 3) + 1 ≤ Kn l.length := by unfold Kn; omega
    rw [if_pos h, if_neg (by omega), toMarkS_eq l (by omega) hK.1]
    simp only [Option.bind_some]
    rw [spec_MarksOk_eq _ (by omega) (by rw [hm]; exact hK.2)]
    simp only [Option.bind_some, impl_MarksOk_eq, bne_self_eq_false, Bool.false_eq_true, if_false]
    rw [eqMarkS_refl _ (by omega) (by omega)]
    rfl
  · rw [if_neg h]
    rfl
end Go.Proofs.Ytommdabkkgcgbaa.Pure
