-- Written by a program of this session (wip/tools/turnprint.py over the kit's print), for this claim: functions as plain Lean and their contracts.
import Derived.Test.YtommdabkkgcgbaaQFnWidex0
import Derived.Test.YtommdabkkgcgbaaQFnWidex2
import Derived.Test.YtommdabkkgcgbaaQFnWidex3
import Derived.Test.YtommdabkkgcgbaaQFnWidex6
namespace Go.Proofs.Ytommdabkkgcgbaa.QFnWide
open Go.RowKit Go.Proofs.YtommdabkkgcgbaaW.PrintWords Go.Proofs.YtommdabkkgcgbaaW.PrintLast Go.Proofs.YtommdabkkgcgbaaW.PrintMore
attribute [local go_sem] max2_int min2_int max_two min_two max_three min_three max_four min_four   -- for this text's walks alone
set_option linter.unusedVariables false
set_option linter.unusedSimpArgs false

/-! ### spec_l1least: function 85 -/
def spec_l1least.l0 : Nat → Int → Int → Int → Int → Int → Int → Int → Int → Option (Int)
  | 0, _, _, _, _, _, _, _, _ => none
  | k + 1, x1, x5, x6, x269000, x269001, x269002, x269003, x269004 => if x6 ≥ 0 then ((spec_l1fair.f x269000 x269001 x269002 x269003 x269004 x6 x1).bind fun t269 => (if t269 = true then (spec_l1least.l0 k x1 x6 (wrap64 (x6 - 1)) x269000 x269001 x269002 x269003 x269004) else (some x5))) else (some x5)
def spec_l1least.f (k : Nat) (a0_0 : Int) (a0_1 : Int) (a0_2 : Int) (a0_3 : Int) (a0_4 : Int) (a1 : Int) : Option (Int) := spec_l1least.l0 k a1 a1 a1 a0_0 a0_1 a0_2 a0_3 a0_4
theorem spec_l1least.mono_l : ∀ k, (∀ y0 y1 y2 y3 y4 y5 y6 y7, LeO (spec_l1least.l0 k y0 y1 y2 y3 y4 y5 y6 y7) (spec_l1least.l0 (k + 1) y0 y1 y2 y3 y4 y5 y6 y7))
  | 0 => fun _ _ _ _ _ _ _ _ r h => by simp [spec_l1least.l0] at h
  | k + 1 => by
    have ih0 := spec_l1least.mono_l k
    · intro y0 y1 y2 y3 y4 y5 y6 y7
      unfold spec_l1least.l0
      repeat' first
      | (with_reducible exact ih0 _ _ _ _ _ _ _ _)
      | (with_reducible exact LeO.refl _)
      | (with_reducible exact LeO.none _)
      | (with_reducible refine LeO.ite ?_ ?_)
      | (with_reducible refine LeO.bind ?_ (fun _ => ?_))
      | exact ih0 _ _ _ _ _ _ _ _
      | exact LeO.none _
      | refine LeO.ite ?_ ?_
      | refine LeO.bind ?_ (fun _ => ?_)
theorem spec_l1least.mono : ∀ a0 a1 a2 a3 a4 a5 k, LeO (spec_l1least.f k a0 a1 a2 a3 a4 a5) (spec_l1least.f (k + 1) a0 a1 a2 a3 a4 a5) := by
  intro a0 a1 a2 a3 a4 a5 k
  have ih0 := spec_l1least.mono_l k
  unfold spec_l1least.f
  repeat' first
      | (with_reducible exact ih0 _ _ _ _ _ _ _ _)
      | (with_reducible exact LeO.refl _)
      | (with_reducible exact LeO.none _)
      | (with_reducible refine LeO.ite ?_ ?_)
      | (with_reducible refine LeO.bind ?_ (fun _ => ?_))
      | exact ih0 _ _ _ _ _ _ _ _
      | exact LeO.none _
      | refine LeO.ite ?_ ?_
      | refine LeO.bind ?_ (fun _ => ?_)
set_option maxHeartbeats 8000000 in
set_option maxRecDepth 100000 in
theorem spec_l1least.calls (k : Nat) (a0_0 : Int) (a0_1 : Int) (a0_2 : Int) (a0_3 : Int) (a0_4 : Int) (a1 : Int) (r : Int) (w : World) (h : spec_l1least.f k a0_0 a0_1 a0_2 a0_3 a0_4 a1 = some r) :
    Calls Try.prog 85 #[.agg #[.int .i64 a0_0, .int .i64 a0_1, .int .i64 a0_2, .int .i64 a0_3, .int .i64 a0_4], .int .i64 a1] w fun e w' => e = .returned (.int .i64 r) ∧ Below w.heap.size w w' := by
  have hu24 := Try.underlying24
  have HB := Aside0.mk (Below.refl w.heap.size w)
  have H : (spec_l1least.l0 k a1 a1 a1 a0_0 a0_1 a0_2 a0_3 a0_4) = some r := h
  clear h
  have H' := Aside0.mk H
  clear H
  go_enter Try.func85, Try.ntmps85
  go_wp2_with (first | ((with_reducible refine gate_dst (N := 2) rfl ?_); refine zx 2 #[.int .i64 a0_0, .int .i64 a0_1, .int .i64 a0_2, .int .i64 a0_3, .int .i64 a0_4] 24 ?_; intro gb268 hg w3 hbox hb; have BK268 := Aside0.mk (hbox); have GW268 := zge HB hg; have GE268 := GW268; replace HB := zB HB hb; clear hb hbox hg))
  go_loopg [5, 6] k (fun kq v5 v6 w' => ∃ (x5_1 : Int) (x6_1 : Int), v5 = .int .i64 x5_1 ∧ v6 = .int .i64 x6_1 ∧ Aside0 (spec_l1least.l0 kq a1 x5_1 x6_1 a0_0 a0_1 a0_2 a0_3 a0_4 = some r) ∧ Aside0 (kq ≤ k) ∧ Aside0 (w'.heap[gb268]? = some (.cells #[.int .i64 a0_0, .int .i64 a0_1, .int .i64 a0_2, .int .i64 a0_3, .int .i64 a0_4] 24 (0, 0))) ∧ Aside0 (Below w.heap.size w w'))
  case atStart => exact ⟨(a1), (a1), ze, ze, H', ⟨Nat.le_refl _⟩, ⟨zy BK268⟩, ⟨by repeat (first | (with_reducible first | exact HB.out | apply below_alloc | apply pw_below_drewN | apply below_drew1 | refine below_set ?_ GE268.out) | exact HB.out)⟩⟩
  case round =>
    clear H'
    (try clear p2)
    obtain ⟨x5_1, x6_1, rfl, rfl, HA, HK1, BK268, HB⟩ := hrel
    cases gk with
    | zero => exact absurd HA.out (by simp [spec_l1least.l0])
    | succ k1 =>
      have H := HA.out
      clear HA
      simp only [spec_l1least.l0] at H
      by_cases c4 : x6_1 ≥ 0
      · rw [if_pos c4] at H
        have c4b0 : decide (0 ≤ x6_1) = true := decide_eq_true c4
        clear c4
        replace H := Option.bind_eq_some_iff.mp H
        obtain ⟨t269, A50, H⟩ := H
        replace H : (if t269 = true then (spec_l1least.l0 k1 a1 x6_1 (wrap64 (x6_1 - 1)) a0_0 a0_1 a0_2 a0_3 a0_4) else (some x5_1)) = some r := H
        have A5 := Aside0.mk A50
        clear A50
        by_cases c6 : t269 = true
        · subst c6
          have H1 : (spec_l1least.l0 k1 a1 x6_1 (wrap64 (x6_1 - 1)) a0_0 a0_1 a0_2 a0_3 a0_4) = some r := by rw [if_pos rfl] at H; exact H
          clear H
          have H := H1
          clear H1
          have H' := Aside0.mk H
          clear H
          obtain ⟨hcz7_0, hcz7_1, hcz7_2, hcz7_3, hcz7_4, hfz7_0, hfz7_1, hfz7_2, hfz7_3, hfz7_4⟩ := zs5 BK268
          go_wp2_with (first | (go_at_call 99; (with_reducible refine (spec_l1fair.calls a0_0 a0_1 a0_2 a0_3 a0_4 x6_1 a1 true _ A5.out).mono ?_); rintro e w8 ⟨rfl, hb⟩; replace BK268 := zb BK268 hb; replace HB := zB HB hb; (try clear hb)))
          go_roundg k1
          case measure => have := HK1.out; omega
          case rel => exact ⟨(x6_1), (wrap64 (x6_1 - 1)), ze, ze, H', ⟨by have := HK1.out; omega⟩, ⟨zy BK268⟩, ⟨by repeat (first | (with_reducible first | exact HB.out | apply below_alloc | apply pw_below_drewN | apply below_drew1 | refine below_set ?_ GE268.out) | exact HB.out)⟩⟩
        · replace c6 := Bool.eq_false_iff.mpr c6
          subst c6
          have H1 : (some x5_1) = some r := by rw [if_neg (show ¬ (false = true) by decide)] at H; exact H
          clear H
          have H := H1
          clear H1
          obtain rfl := Option.some.inj H
          obtain ⟨hcz9_0, hcz9_1, hcz9_2, hcz9_3, hcz9_4, hfz9_0, hfz9_1, hfz9_2, hfz9_3, hfz9_4⟩ := zs5 BK268
          go_wp2_with (first | (go_at_call 99; (with_reducible refine (spec_l1fair.calls a0_0 a0_1 a0_2 a0_3 a0_4 x6_1 a1 false _ A5.out).mono ?_); rintro e w10 ⟨rfl, hb⟩; replace BK268 := zb BK268 hb; replace HB := zB HB hb; (try clear hb)))
          go_ret
          exact ⟨by first | rfl | (simp [errW_none, errW_some] <;> rfl) | (simp [*, errW_none, errW_some] <;> rfl), by repeat (first | (with_reducible first | exact HB.out | apply below_alloc | apply pw_below_drewN | apply below_drew1 | refine below_set ?_ GE268.out) | exact HB.out)⟩
      · rw [if_neg c4] at H
        have c4b0 : decide (0 ≤ x6_1) = false := decide_eq_false c4
        clear c4
        obtain rfl := Option.some.inj H
        go_wp2
        go_ret
        exact ⟨by first | rfl | (simp [errW_none, errW_some] <;> rfl) | (simp [*, errW_none, errW_some] <;> rfl), by repeat (first | (with_reducible first | exact HB.out | apply below_alloc | apply pw_below_drewN | apply below_drew1 | refine below_set ?_ GE268.out) | exact HB.out)⟩

/-! ### spec_Wide: function 43 -/
def spec_Wide.j0 : Nat → Int → Bool → Int → Int → Int → Int → Int → Option (Int)
  | 0, _, _, _, _, _, _, _ => none
  | k + 1, x2, x19, x271000, x271001, x271002, x271003, x271004 => if x19 = true then (some (-1)) else ((spec_l1most.f k x271000 x271001 x271002 x271003 x271004 x2).bind fun t274 => ((spec_l1least.f k x271000 x271001 x271002 x271003 x271004 x2).bind fun t275 => (some (wrap64 ((wrap64 ((wrap64 (2 * x271002)) + t274)) - t275)))))
def spec_Wide.f (k : Nat) (a0_0 : Int) (a0_1 : Int) (a0_2 : Int) (a0_3 : Int) (a0_4 : Int) (l1 : List (S37)) (a2 : Int) : Option (Int) := (spec_RulesOk.f a0_0 a0_1 a0_2 a0_3 a0_4).bind fun t271 => (if t271 = true then ((spec_MarksOk.f k l1).bind fun t272 => (if t272 = true then ((spec_l1in.f a2 0 100000).bind fun t273 => (spec_Wide.j0 k a2 (!t273) a0_0 a0_1 a0_2 a0_3 a0_4)) else (spec_Wide.j0 k a2 true a0_0 a0_1 a0_2 a0_3 a0_4))) else (spec_Wide.j0 k a2 true a0_0 a0_1 a0_2 a0_3 a0_4))
theorem spec_Wide.mono_l : ∀ k, (∀ y0 y1 y2 y3 y4 y5 y6, LeO (spec_Wide.j0 k y0 y1 y2 y3 y4 y5 y6) (spec_Wide.j0 (k + 1) y0 y1 y2 y3 y4 y5 y6))
  | 0 => fun _ _ _ _ _ _ _ r h => by simp [spec_Wide.j0] at h
  | k + 1 => by
    have ih0 := spec_Wide.mono_l k
    · intro y0 y1 y2 y3 y4 y5 y6
      unfold spec_Wide.j0
      repeat' first
      | (with_reducible exact ih0 _ _ _ _ _ _ _)
      | (with_reducible exact spec_MarksOk.mono _ _)
      | (with_reducible exact spec_l1least.mono _ _ _ _ _ _ _)
      | (with_reducible exact spec_l1most.mono _ _ _ _ _ _ _)
      | (with_reducible exact LeO.refl _)
      | (with_reducible exact LeO.none _)
      | (with_reducible refine LeO.ite ?_ ?_)
      | (with_reducible refine LeO.bind ?_ (fun _ => ?_))
      | exact ih0 _ _ _ _ _ _ _
      | exact spec_MarksOk.mono _ _
      | exact spec_l1least.mono _ _ _ _ _ _ _
      | exact spec_l1most.mono _ _ _ _ _ _ _
      | exact LeO.none _
      | refine LeO.ite ?_ ?_
      | refine LeO.bind ?_ (fun _ => ?_)
theorem spec_Wide.mono : ∀ a0 a1 a2 a3 a4 a5 a6 k, LeO (spec_Wide.f k a0 a1 a2 a3 a4 a5 a6) (spec_Wide.f (k + 1) a0 a1 a2 a3 a4 a5 a6) := by
  intro a0 a1 a2 a3 a4 a5 a6 k
  have ih0 := spec_Wide.mono_l k
  unfold spec_Wide.f
  repeat' first
      | (with_reducible exact ih0 _ _ _ _ _ _ _)
      | (with_reducible exact spec_MarksOk.mono _ _)
      | (with_reducible exact spec_l1least.mono _ _ _ _ _ _ _)
      | (with_reducible exact spec_l1most.mono _ _ _ _ _ _ _)
      | (with_reducible exact LeO.refl _)
      | (with_reducible exact LeO.none _)
      | (with_reducible refine LeO.ite ?_ ?_)
      | (with_reducible refine LeO.bind ?_ (fun _ => ?_))
      | exact ih0 _ _ _ _ _ _ _
      | exact spec_MarksOk.mono _ _
      | exact spec_l1least.mono _ _ _ _ _ _ _
      | exact spec_l1most.mono _ _ _ _ _ _ _
      | exact LeO.none _
      | refine LeO.ite ?_ ?_
      | refine LeO.bind ?_ (fun _ => ?_)
def spec_Wide.T3 : Bool × List (List Nat × List Nat) := (true, [([], []), ([0], [0]), ([1], [1]), ([], []), ([], []), ([3, 4], [3, 4]), ([2, 5], [2, 5]), ([], []), ([], []), ([7, 8, 5], [7, 8]), ([6, 9], [6, 9]), ([10, 9, 0, 1, 2, 3, 4, 5, 6, 7, 8, 9, 10], [10])])
def spec_Wide.B3 : List Nat := [0, 1, 3, 0, 0, 24, 63, 0, 0, 440, 1023, 2047]
theorem spec_Wide.tab3 : rtab .any (opsOf Try.f43 3) = spec_Wide.T3 := by kernel_rfl
theorem spec_Wide.bits3 : waitsOk spec_Wide.T3.2 spec_Wide.B3 = true := by kernel_rfl
set_option maxHeartbeats 8000000 in
set_option maxRecDepth 100000 in
theorem spec_Wide.calls (k : Nat) (a0_0 : Int) (a0_1 : Int) (a0_2 : Int) (a0_3 : Int) (a0_4 : Int) (A1 : Option Addr) (c1 : Nat) (l1 : List (S37)) (a2 : Int) (r : Int) (w : World) (hr1 : Kd.C k37 w A1 l1.length l1) (hc1 : l1.length ≤ c1) (h : spec_Wide.f k a0_0 a0_1 a0_2 a0_3 a0_4 l1 a2 = some r) :
    Calls Try.prog 43 #[.agg #[.int .i64 a0_0, .int .i64 a0_1, .int .i64 a0_2, .int .i64 a0_3, .int .i64 a0_4], .slice A1 l1.length c1, .int .i64 a2] w fun e w' => e = .returned (.int .i64 r) ∧ Below w.heap.size w w' := by
  have hu24 := Try.underlying24
  have HR1 := Aside0.mk hr1
  have HC1 := Aside0.mk hc1
  clear hr1 hc1
  have HB := Aside0.mk (Below.refl w.heap.size w)
  have H : ((spec_RulesOk.f a0_0 a0_1 a0_2 a0_3 a0_4).bind fun t271 => (if t271 = true then ((spec_MarksOk.f k l1).bind fun t272 => (if t272 = true then ((spec_l1in.f a2 0 100000).bind fun t273 => (spec_Wide.j0 k a2 (!t273) a0_0 a0_1 a0_2 a0_3 a0_4)) else (spec_Wide.j0 k a2 true a0_0 a0_1 a0_2 a0_3 a0_4))) else (spec_Wide.j0 k a2 true a0_0 a0_1 a0_2 a0_3 a0_4))) = some r := h
  clear h
  have HC4 := Aside0.mk H
  clear H
  go_enter Try.func43, Try.ntmps43
  go_upto_region 1 with (first | ((with_reducible refine gate_dst (N := 3) rfl ?_); refine zx 3 #[.int .i64 a0_0, .int .i64 a0_1, .int .i64 a0_2, .int .i64 a0_3, .int .i64 a0_4] 24 ?_; intro gb270 hg w5 hbox hb; have BK270 := Aside0.mk (hbox); have GW270 := zge HB hg; have GE270 := GW270; replace HB := zB HB hb; clear hb hbox hg))
  (try simp only [Act.put, List.setIfInBounds_toArray, List.set_cons_zero, List.set_cons_succ])
  go_cut [19] (fun v19 wc => ∃ (kq : Nat) (x19_3 : Bool), v19 = .bool x19_3 ∧ Aside0 (spec_Wide.j0 kq a2 x19_3 a0_0 a0_1 a0_2 a0_3 a0_4 = some r) ∧ Aside0 (kq ≤ k) ∧ Aside0 (wc.heap[gb270]? = some (.cells #[.int .i64 a0_0, .int .i64 a0_1, .int .i64 a0_2, .int .i64 a0_3, .int .i64 a0_4] 24 (0, 0))) ∧ Aside0 (Below w.heap.size w wc))
  case first =>
    have H := HC4.out
    clear HC4
    replace H := Option.bind_eq_some_iff.mp H
    obtain ⟨t271, A60, H⟩ := H
    replace H : (if t271 = true then ((spec_MarksOk.f k l1).bind fun t272 => (if t272 = true then ((spec_l1in.f a2 0 100000).bind fun t273 => (spec_Wide.j0 k a2 (!t273) a0_0 a0_1 a0_2 a0_3 a0_4)) else (spec_Wide.j0 k a2 true a0_0 a0_1 a0_2 a0_3 a0_4))) else (spec_Wide.j0 k a2 true a0_0 a0_1 a0_2 a0_3 a0_4)) = some r := H
    have A6 := Aside0.mk A60
    clear A60
    by_cases c7 : t271 = true
    · subst c7
      have H1 : ((spec_MarksOk.f k l1).bind fun t272 => (if t272 = true then ((spec_l1in.f a2 0 100000).bind fun t273 => (spec_Wide.j0 k a2 (!t273) a0_0 a0_1 a0_2 a0_3 a0_4)) else (spec_Wide.j0 k a2 true a0_0 a0_1 a0_2 a0_3 a0_4))) = some r := by rw [if_pos rfl] at H; exact H
      clear H
      have H := H1
      clear H1
      replace H := Option.bind_eq_some_iff.mp H
      obtain ⟨t272, A80, H⟩ := H
      replace H : (if t272 = true then ((spec_l1in.f a2 0 100000).bind fun t273 => (spec_Wide.j0 k a2 (!t273) a0_0 a0_1 a0_2 a0_3 a0_4)) else (spec_Wide.j0 k a2 true a0_0 a0_1 a0_2 a0_3 a0_4)) = some r := H
      have A8 := Aside0.mk A80
      clear A80
      by_cases c9 : t272 = true
      · subst c9
        have H1 : ((spec_l1in.f a2 0 100000).bind fun t273 => (spec_Wide.j0 k a2 (!t273) a0_0 a0_1 a0_2 a0_3 a0_4)) = some r := by rw [if_pos rfl] at H; exact H
        clear H
        have H := H1
        clear H1
        replace H := Option.bind_eq_some_iff.mp H
        obtain ⟨t273, A100, H⟩ := H
        replace H : (spec_Wide.j0 k a2 (!t273) a0_0 a0_1 a0_2 a0_3 a0_4) = some r := H
        have A10 := Aside0.mk A100
        clear A100
        have H' := Aside0.mk H
        clear H
        obtain ⟨hcz11_0, hcz11_1, hcz11_2, hcz11_3, hcz11_4, hfz11_0, hfz11_1, hfz11_2, hfz11_3, hfz11_4⟩ := zs5 BK270
        go_wp2_with (first | ((with_reducible refine gate_callee (f := 67) rfl ?_); refine zL (some 8) Try.func67 #[.agg #[.int .i64 a0_0, .int .i64 a0_1, .int .i64 a0_2, .int .i64 a0_3, .int .i64 a0_4]] ?_; (with_reducible refine (spec_RulesOk.calls a0_0 a0_1 a0_2 a0_3 a0_4 true _ A6.out).mono ?_); rintro e w12 ⟨rfl, hb⟩; refine ⟨_, rfl, ?_⟩; replace BK270 := zb BK270 hb; replace HB := zB HB hb; (try clear hb)) | (go_at_call 36; (with_reducible refine (spec_MarksOk.calls k _ _ l1 true _ ?side1 ?side2 A8.out).mono ?_); (case side1 => repeat (first | exact (Kd.C_below HR1.out HB.out) | (with_reducible refine Kd.C_alloc ?_ _) | (with_reducible refine Kd.C_drewN ?_ _) | (with_reducible refine Kd.C_drew ?_))); (case side2 => exact HC1.out); rintro e w13 ⟨rfl, hb⟩; replace BK270 := zb BK270 hb; replace HB := zB HB hb; (try clear hb)) | (go_at_call 80; (with_reducible refine (spec_l1in.calls a2 0 100000 t273 _ A10.out).mono ?_); rintro e w' ⟨rfl, ⟨nd, rfl⟩⟩))
        go_meet
        case rel => exact ⟨_, (!t273), ze, H', ⟨by first | omega | exact Nat.le_refl _⟩, ⟨zy BK270⟩, ⟨by repeat (first | (with_reducible first | exact HB.out | apply below_alloc | apply pw_below_drewN | apply below_drew1 | refine below_set ?_ GE270.out) | exact HB.out)⟩⟩
      · replace c9 := Bool.eq_false_iff.mpr c9
        subst c9
        have H1 : (spec_Wide.j0 k a2 true a0_0 a0_1 a0_2 a0_3 a0_4) = some r := by rw [if_neg (show ¬ (false = true) by decide)] at H; exact H
        clear H
        have H := H1
        clear H1
        have H' := Aside0.mk H
        clear H
        obtain ⟨hcz14_0, hcz14_1, hcz14_2, hcz14_3, hcz14_4, hfz14_0, hfz14_1, hfz14_2, hfz14_3, hfz14_4⟩ := zs5 BK270
        go_wp2_with (first | ((with_reducible refine gate_callee (f := 67) rfl ?_); refine zL (some 8) Try.func67 #[.agg #[.int .i64 a0_0, .int .i64 a0_1, .int .i64 a0_2, .int .i64 a0_3, .int .i64 a0_4]] ?_; (with_reducible refine (spec_RulesOk.calls a0_0 a0_1 a0_2 a0_3 a0_4 true _ A6.out).mono ?_); rintro e w15 ⟨rfl, hb⟩; refine ⟨_, rfl, ?_⟩; replace BK270 := zb BK270 hb; replace HB := zB HB hb; (try clear hb)) | (go_at_call 36; (with_reducible refine (spec_MarksOk.calls k _ _ l1 false _ ?side1 ?side2 A8.out).mono ?_); (case side1 => repeat (first | exact (Kd.C_below HR1.out HB.out) | (with_reducible refine Kd.C_alloc ?_ _) | (with_reducible refine Kd.C_drewN ?_ _) | (with_reducible refine Kd.C_drew ?_))); (case side2 => exact HC1.out); rintro e w16 ⟨rfl, hb⟩; replace BK270 := zb BK270 hb; replace HB := zB HB hb; (try clear hb)))
        go_meet
        case rel => exact ⟨_, (true), ze, H', ⟨by first | omega | exact Nat.le_refl _⟩, ⟨zy BK270⟩, ⟨by repeat (first | (with_reducible first | exact HB.out | apply below_alloc | apply pw_below_drewN | apply below_drew1 | refine below_set ?_ GE270.out) | exact HB.out)⟩⟩
    · replace c7 := Bool.eq_false_iff.mpr c7
      subst c7
      have H1 : (spec_Wide.j0 k a2 true a0_0 a0_1 a0_2 a0_3 a0_4) = some r := by rw [if_neg (show ¬ (false = true) by decide)] at H; exact H
      clear H
      have H := H1
      clear H1
      have H' := Aside0.mk H
      clear H
      obtain ⟨hcz17_0, hcz17_1, hcz17_2, hcz17_3, hcz17_4, hfz17_0, hfz17_1, hfz17_2, hfz17_3, hfz17_4⟩ := zs5 BK270
      go_wp2_with (first | ((with_reducible refine gate_callee (f := 67) rfl ?_); refine zL (some 8) Try.func67 #[.agg #[.int .i64 a0_0, .int .i64 a0_1, .int .i64 a0_2, .int .i64 a0_3, .int .i64 a0_4]] ?_; (with_reducible refine (spec_RulesOk.calls a0_0 a0_1 a0_2 a0_3 a0_4 false _ A6.out).mono ?_); rintro e w18 ⟨rfl, hb⟩; refine ⟨_, rfl, ?_⟩; replace BK270 := zb BK270 hb; replace HB := zB HB hb; (try clear hb)))
      go_meet
      case rel => exact ⟨_, (true), ze, H', ⟨by first | omega | exact Nat.le_refl _⟩, ⟨zy BK270⟩, ⟨by repeat (first | (with_reducible first | exact HB.out | apply below_alloc | apply pw_below_drewN | apply below_drew1 | refine below_set ?_ GE270.out) | exact HB.out)⟩⟩
  case rest =>
    clear HC4
    (try clear c1); (try clear p2); (try clear c4); (try clear c6); (try clear c7); (try clear c9); (try clear hcz11_0); (try clear hcz11_1); (try clear hcz11_2); (try clear hcz11_3); (try clear hcz11_4); (try clear hcz14_0); (try clear hcz14_1); (try clear hcz14_2); (try clear hcz14_3); (try clear hcz14_4); (try clear hcz17_0); (try clear hcz17_1); (try clear hcz17_2); (try clear hcz17_3); (try clear hcz17_4); (try clear hfz11_0); (try clear hfz11_1); (try clear hfz11_2); (try clear hfz11_3); (try clear hfz11_4); (try clear hfz14_0); (try clear hfz14_1); (try clear hfz14_2); (try clear hfz14_3); (try clear hfz14_4); (try clear hfz17_0); (try clear hfz17_1); (try clear hfz17_2); (try clear hfz17_3); (try clear hfz17_4)
    obtain ⟨kq, x19_3, rfl, HA, HJ3, BK270, HB⟩ := hcut
    cases kq with
    | zero => exact absurd HA.out (by simp [spec_Wide.j0])
    | succ kj3 =>
      have H := HA.out
      clear HA
      simp only [spec_Wide.j0] at H
      by_cases c19 : x19_3 = true
      · subst c19
        have H1 : (some (-1)) = some r := by rw [if_pos rfl] at H; exact H
        clear H
        have H := H1
        clear H1
        obtain rfl := Option.some.inj H
        go_wp2
        go_ret
        exact ⟨by first | rfl | (simp [errW_none, errW_some] <;> rfl) | (simp [*, errW_none, errW_some] <;> rfl), by repeat (first | (with_reducible first | exact HB.out | apply below_alloc | apply pw_below_drewN | apply below_drew1 | refine below_set ?_ GE270.out) | exact HB.out)⟩
      · replace c19 := Bool.eq_false_iff.mpr c19
        subst c19
        have H1 : ((spec_l1most.f kj3 a0_0 a0_1 a0_2 a0_3 a0_4 a2).bind fun t274 => ((spec_l1least.f kj3 a0_0 a0_1 a0_2 a0_3 a0_4 a2).bind fun t275 => (some (wrap64 ((wrap64 ((wrap64 (2 * a0_2)) + t274)) - t275))))) = some r := by rw [if_neg (show ¬ (false = true) by decide)] at H; exact H
        clear H
        have H := H1
        clear H1
        replace H := Option.bind_eq_some_iff.mp H
        obtain ⟨t274, A200, H⟩ := H
        replace H : ((spec_l1least.f kj3 a0_0 a0_1 a0_2 a0_3 a0_4 a2).bind fun t275 => (some (wrap64 ((wrap64 ((wrap64 (2 * a0_2)) + t274)) - t275)))) = some r := H
        have A20 := Aside0.mk A200
        clear A200
        replace H := Option.bind_eq_some_iff.mp H
        obtain ⟨t275, A210, H⟩ := H
        replace H : (some (wrap64 ((wrap64 ((wrap64 (2 * a0_2)) + t274)) - t275))) = some r := H
        have A21 := Aside0.mk A210
        clear A210
        obtain rfl := Option.some.inj H
        try go_wp2
        have n0_ := Aside0.mk (blk_drew BK270.out)
        have n1_ := Aside0.mk (below_drew1 HB.out)
        clear BK270 HB
        have BK270 := n0_
        have HB := n1_
        clear n0_ n1_
        refine start_ (n := 12) (S := fun w' => w'.cell? ⟨gb270, 0, none⟩ = some (.int .i64 a0_0) ∧ w'.cell? ⟨gb270, 1, none⟩ = some (.int .i64 a0_1) ∧ w'.cell? ⟨gb270, 2, none⟩ = some (.int .i64 a0_2) ∧ w'.cell? ⟨gb270, 3, none⟩ = some (.int .i64 a0_3) ∧ w'.cell? ⟨gb270, 4, none⟩ = some (.int .i64 a0_4)) (ds := []) #[false, false, false, false, false, false, false, false, false, false, false, false] (by kernel_rfl) rfl rfl ⟨zc BK270 0, zc BK270 1, zc BK270 2, zc BK270 3, zc BK270 4⟩ (fun hHeld => ?_); refine with_tabW spec_Wide.tab3 spec_Wide.bits3 (fun HT_ HW_ => ?_)
        generalize wc.drew = w22 at BK270 HB hHeld ⊢
        refine zp 0 20 (zm 12 1) HT_ ?_
        refine zp 4 24 (zm 12 17) HT_ ?_
        refine zp 8 28 (zm 12 273) HT_ ?_
        refine zt 1 21 (zm 12 275) HT_ HW_ hHeld ?_
        refine zp 2 22 (zm 12 279) HT_ ?_
        refine zt 3 23 (zm 12 287) HT_ HW_ hHeld ?_
        refine zt 7 27 (zm 12 415) HT_ HW_ hHeld ?_
        refine zo 5 (some 25) (zm 12 447) HT_ (fun K hK => ?_)
        refine zG Try.func84 #[.agg #[.int .i64 a0_0, .int .i64 a0_1, .int .i64 a0_2, .int .i64 a0_3, .int .i64 a0_4], .int .i64 a2] ?_
        with_reducible refine (spec_l1most.calls kj3 a0_0 a0_1 a0_2 a0_3 a0_4 a2 t274 _ A20.out).mono ?_
        rintro e w23 ⟨rfl, hb⟩
        refine ⟨_, rfl, ?_⟩
        replace BK270 := zb BK270 hb
        replace HB := zB HB hb
        (try clear hb)
        refine hK.out _ _ ⟨zc BK270 0, zc BK270 1, zc BK270 2, zc BK270 3, zc BK270 4⟩ (fun hHeld => ?_)
        clear hK K
        refine zn 25 ?_
        refine zp 6 26 (zm 12 511) HT_ ?_
        refine zo 9 (some 29) (zm 12 1023) HT_ (fun K hK => ?_)
        refine zG Try.func85 #[.agg #[.int .i64 a0_0, .int .i64 a0_1, .int .i64 a0_2, .int .i64 a0_3, .int .i64 a0_4], .int .i64 a2] ?_
        with_reducible refine (spec_l1least.calls kj3 a0_0 a0_1 a0_2 a0_3 a0_4 a2 t275 _ A21.out).mono ?_
        rintro e w24 ⟨rfl, hb⟩
        refine ⟨_, rfl, ?_⟩
        replace BK270 := zb BK270 hb
        replace HB := zB HB hb
        (try clear hb)
        refine hK.out _ _ ⟨zc BK270 0, zc BK270 1, zc BK270 2, zc BK270 3, zc BK270 4⟩ (fun hHeld => ?_)
        clear hK K
        refine zn 29 ?_
        refine zp 10 30 (zm 12 2047) HT_ ?_
        refine zp 11 6 (zm 12 4095) HT_ ?_
        refine done_ (done_of HT_.out (by kernel_rfl)) ?_
        try go_wp2
        go_ret
        exact ⟨by first | rfl | (simp [errW_none, errW_some] <;> rfl) | (simp [*, errW_none, errW_some] <;> rfl), by repeat (first | (with_reducible first | exact HB.out | apply below_alloc | apply pw_below_drewN | apply below_drew1 | refine below_set ?_ GE270.out) | exact HB.out)⟩

/-! ### impl_Wide: function 44 -/
def impl_Wide.f (a0_0 : Int) (a0_1 : Int) (a0_2 : Int) (a0_3 : Int) (a0_4 : Int) (l1 : List (S37)) (a2 : Int) : Option (Int) := (impl_RulesOk.f a0_0 a0_1 a0_2 a0_3 a0_4).bind fun t277 => (if t277 = true then ((impl_MarksOk.f l1).bind fun t278 => (if t278 = true then ((impl_in.f a2 0 100000).bind fun t279 => (if t279 = true then ((impl_came.f a0_0 a0_1 a0_2 a0_3 a0_4 a2).bind fun bt280 => (some (wrap64 ((wrap64 ((wrap64 (2 * a0_2)) + bt280.2)) - bt280.1)))) else (some (-1)))) else (some (-1)))) else (some (-1)))
set_option maxHeartbeats 8000000 in
set_option maxRecDepth 100000 in
theorem impl_Wide.calls (a0_0 : Int) (a0_1 : Int) (a0_2 : Int) (a0_3 : Int) (a0_4 : Int) (A1 : Option Addr) (c1 : Nat) (l1 : List (S37)) (a2 : Int) (r : Int) (w : World) (hr1 : Kd.C k37 w A1 l1.length l1) (hc1 : l1.length ≤ c1) (h : impl_Wide.f a0_0 a0_1 a0_2 a0_3 a0_4 l1 a2 = some r) :
    Calls Try.prog 44 #[.agg #[.int .i64 a0_0, .int .i64 a0_1, .int .i64 a0_2, .int .i64 a0_3, .int .i64 a0_4], .slice A1 l1.length c1, .int .i64 a2] w fun e w' => e = .returned (.int .i64 r) ∧ Below w.heap.size w w' := by
  have hu24 := Try.underlying24
  have HR1 := Aside0.mk hr1
  have HC1 := Aside0.mk hc1
  clear hr1 hc1
  have HB := Aside0.mk (Below.refl w.heap.size w)
  have H : ((impl_RulesOk.f a0_0 a0_1 a0_2 a0_3 a0_4).bind fun t277 => (if t277 = true then ((impl_MarksOk.f l1).bind fun t278 => (if t278 = true then ((impl_in.f a2 0 100000).bind fun t279 => (if t279 = true then ((impl_came.f a0_0 a0_1 a0_2 a0_3 a0_4 a2).bind fun bt280 => (some (wrap64 ((wrap64 ((wrap64 (2 * a0_2)) + bt280.2)) - bt280.1)))) else (some (-1)))) else (some (-1)))) else (some (-1)))) = some r := h
  clear h
  replace H := Option.bind_eq_some_iff.mp H
  obtain ⟨t277, A40, H⟩ := H
  replace H : (if t277 = true then ((impl_MarksOk.f l1).bind fun t278 => (if t278 = true then ((impl_in.f a2 0 100000).bind fun t279 => (if t279 = true then ((impl_came.f a0_0 a0_1 a0_2 a0_3 a0_4 a2).bind fun bt280 => (some (wrap64 ((wrap64 ((wrap64 (2 * a0_2)) + bt280.2)) - bt280.1)))) else (some (-1)))) else (some (-1)))) else (some (-1))) = some r := H
  have A4 := Aside0.mk A40
  clear A40
  by_cases c5 : t277 = true
  · subst c5
    have H1 : ((impl_MarksOk.f l1).bind fun t278 => (if t278 = true then ((impl_in.f a2 0 100000).bind fun t279 => (if t279 = true then ((impl_came.f a0_0 a0_1 a0_2 a0_3 a0_4 a2).bind fun bt280 => (some (wrap64 ((wrap64 ((wrap64 (2 * a0_2)) + bt280.2)) - bt280.1)))) else (some (-1)))) else (some (-1)))) = some r := by rw [if_pos rfl] at H; exact H
    clear H
    have H := H1
    clear H1
    replace H := Option.bind_eq_some_iff.mp H
    obtain ⟨t278, A60, H⟩ := H
    replace H : (if t278 = true then ((impl_in.f a2 0 100000).bind fun t279 => (if t279 = true then ((impl_came.f a0_0 a0_1 a0_2 a0_3 a0_4 a2).bind fun bt280 => (some (wrap64 ((wrap64 ((wrap64 (2 * a0_2)) + bt280.2)) - bt280.1)))) else (some (-1)))) else (some (-1))) = some r := H
    have A6 := Aside0.mk A60
    clear A60
    by_cases c7 : t278 = true
    · subst c7
      have H1 : ((impl_in.f a2 0 100000).bind fun t279 => (if t279 = true then ((impl_came.f a0_0 a0_1 a0_2 a0_3 a0_4 a2).bind fun bt280 => (some (wrap64 ((wrap64 ((wrap64 (2 * a0_2)) + bt280.2)) - bt280.1)))) else (some (-1)))) = some r := by rw [if_pos rfl] at H; exact H
      clear H
      have H := H1
      clear H1
      replace H := Option.bind_eq_some_iff.mp H
      obtain ⟨t279, A80, H⟩ := H
      replace H : (if t279 = true then ((impl_came.f a0_0 a0_1 a0_2 a0_3 a0_4 a2).bind fun bt280 => (some (wrap64 ((wrap64 ((wrap64 (2 * a0_2)) + bt280.2)) - bt280.1)))) else (some (-1))) = some r := H
      have A8 := Aside0.mk A80
      clear A80
      by_cases c9 : t279 = true
      · subst c9
        have H1 : ((impl_came.f a0_0 a0_1 a0_2 a0_3 a0_4 a2).bind fun bt280 => (some (wrap64 ((wrap64 ((wrap64 (2 * a0_2)) + bt280.2)) - bt280.1)))) = some r := by rw [if_pos rfl] at H; exact H
        clear H
        have H := H1
        clear H1
        replace H := Option.bind_eq_some_iff.mp H
        obtain ⟨⟨t280, t281⟩, A100, H⟩ := H
        replace H : (some (wrap64 ((wrap64 ((wrap64 (2 * a0_2)) + t281)) - t280))) = some r := H
        have A10 := Aside0.mk A100
        clear A100
        obtain rfl := Option.some.inj H
        go_enter Try.func44, Try.ntmps44
        go_wp2_with (first | ((with_reducible refine gate_dst (N := 3) rfl ?_); refine zx 3 #[.int .i64 a0_0, .int .i64 a0_1, .int .i64 a0_2, .int .i64 a0_3, .int .i64 a0_4] 24 ?_; intro gb276 hg w11 hbox hb; have BK276 := Aside0.mk (hbox); have GW276 := zge HB hg; have GE276 := GW276; replace HB := zB HB hb; clear hb hbox hg; obtain ⟨hcz12_0, hcz12_1, hcz12_2, hcz12_3, hcz12_4, hfz12_0, hfz12_1, hfz12_2, hfz12_3, hfz12_4⟩ := zs5 BK276) | ((with_reducible refine gate_callee (f := 64) rfl ?_); refine zL (some 10) Try.func64 #[.agg #[.int .i64 a0_0, .int .i64 a0_1, .int .i64 a0_2, .int .i64 a0_3, .int .i64 a0_4]] ?_; (with_reducible refine (impl_RulesOk.calls a0_0 a0_1 a0_2 a0_3 a0_4 true _ A4.out).mono ?_); rintro e w13 ⟨rfl, hb⟩; refine ⟨_, rfl, ?_⟩; replace BK276 := zb BK276 hb; replace HB := zB HB hb; (try clear hb)) | (go_at_call 37; (with_reducible refine (impl_MarksOk.calls _ _ l1 true _ ?side1 ?side2 A6.out).mono ?_); (case side1 => repeat (first | exact (Kd.C_below HR1.out HB.out) | (with_reducible refine Kd.C_alloc ?_ _) | (with_reducible refine Kd.C_drewN ?_ _) | (with_reducible refine Kd.C_drew ?_))); (case side2 => exact HC1.out); rintro e w14 ⟨rfl, hb⟩; replace BK276 := zb BK276 hb; replace HB := zB HB hb; (try clear hb)) | (go_at_call 81; (with_reducible refine (impl_in.calls a2 0 100000 true _ A8.out).mono ?_); rintro e w' ⟨rfl, ⟨nd, rfl⟩⟩; obtain ⟨hcz15_0, hcz15_1, hcz15_2, hcz15_3, hcz15_4, hfz15_0, hfz15_1, hfz15_2, hfz15_3, hfz15_4⟩ := zs5 BK276) | ((with_reducible refine gate_callee (f := 86) rfl ?_); refine zL (some 25) Try.func86 #[.agg #[.int .i64 a0_0, .int .i64 a0_1, .int .i64 a0_2, .int .i64 a0_3, .int .i64 a0_4], .int .i64 a2] ?_; (with_reducible refine (impl_came.calls a0_0 a0_1 a0_2 a0_3 a0_4 a2 t280 t281 _ A10.out).mono ?_); rintro e w16 ⟨rfl, hb⟩; refine ⟨_, rfl, ?_⟩; replace BK276 := zb BK276 hb; replace HB := zB HB hb; (try clear hb); obtain ⟨hcz17_0, hcz17_1, hcz17_2, hcz17_3, hcz17_4, hfz17_0, hfz17_1, hfz17_2, hfz17_3, hfz17_4⟩ := zs5 BK276))
        go_ret
        exact ⟨by first | rfl | (simp [errW_none, errW_some] <;> rfl) | (simp [*, errW_none, errW_some] <;> rfl), by repeat (first | (with_reducible first | exact HB.out | apply below_alloc | apply pw_below_drewN | apply below_drew1 | refine below_set ?_ GE276.out) | exact HB.out)⟩
      · replace c9 := Bool.eq_false_iff.mpr c9
        subst c9
        have H1 : (some (-1)) = some r := by rw [if_neg (show ¬ (false = true) by decide)] at H; exact H
        clear H
        have H := H1
        clear H1
        obtain rfl := Option.some.inj H
        go_enter Try.func44, Try.ntmps44
        go_wp2_with (first | ((with_reducible refine gate_dst (N := 3) rfl ?_); refine zx 3 #[.int .i64 a0_0, .int .i64 a0_1, .int .i64 a0_2, .int .i64 a0_3, .int .i64 a0_4] 24 ?_; intro gb276 hg w18 hbox hb; have BK276 := Aside0.mk (hbox); have GW276 := zge HB hg; have GE276 := GW276; replace HB := zB HB hb; clear hb hbox hg; obtain ⟨hcz19_0, hcz19_1, hcz19_2, hcz19_3, hcz19_4, hfz19_0, hfz19_1, hfz19_2, hfz19_3, hfz19_4⟩ := zs5 BK276) | ((with_reducible refine gate_callee (f := 64) rfl ?_); refine zL (some 10) Try.func64 #[.agg #[.int .i64 a0_0, .int .i64 a0_1, .int .i64 a0_2, .int .i64 a0_3, .int .i64 a0_4]] ?_; (with_reducible refine (impl_RulesOk.calls a0_0 a0_1 a0_2 a0_3 a0_4 true _ A4.out).mono ?_); rintro e w20 ⟨rfl, hb⟩; refine ⟨_, rfl, ?_⟩; replace BK276 := zb BK276 hb; replace HB := zB HB hb; (try clear hb)) | (go_at_call 37; (with_reducible refine (impl_MarksOk.calls _ _ l1 true _ ?side1 ?side2 A6.out).mono ?_); (case side1 => repeat (first | exact (Kd.C_below HR1.out HB.out) | (with_reducible refine Kd.C_alloc ?_ _) | (with_reducible refine Kd.C_drewN ?_ _) | (with_reducible refine Kd.C_drew ?_))); (case side2 => exact HC1.out); rintro e w21 ⟨rfl, hb⟩; replace BK276 := zb BK276 hb; replace HB := zB HB hb; (try clear hb)) | (go_at_call 81; (with_reducible refine (impl_in.calls a2 0 100000 false _ A8.out).mono ?_); rintro e w' ⟨rfl, ⟨nd, rfl⟩⟩))
        go_ret
        exact ⟨by first | rfl | (simp [errW_none, errW_some] <;> rfl) | (simp [*, errW_none, errW_some] <;> rfl), by repeat (first | (with_reducible first | exact HB.out | apply below_alloc | apply pw_below_drewN | apply below_drew1 | refine below_set ?_ GE276.out) | exact HB.out)⟩
    · replace c7 := Bool.eq_false_iff.mpr c7
      subst c7
      have H1 : (some (-1)) = some r := by rw [if_neg (show ¬ (false = true) by decide)] at H; exact H
      clear H
      have H := H1
      clear H1
      obtain rfl := Option.some.inj H
      go_enter Try.func44, Try.ntmps44
      go_wp2_with (first | ((with_reducible refine gate_dst (N := 3) rfl ?_); refine zx 3 #[.int .i64 a0_0, .int .i64 a0_1, .int .i64 a0_2, .int .i64 a0_3, .int .i64 a0_4] 24 ?_; intro gb276 hg w22 hbox hb; have BK276 := Aside0.mk (hbox); have GW276 := zge HB hg; have GE276 := GW276; replace HB := zB HB hb; clear hb hbox hg; obtain ⟨hcz23_0, hcz23_1, hcz23_2, hcz23_3, hcz23_4, hfz23_0, hfz23_1, hfz23_2, hfz23_3, hfz23_4⟩ := zs5 BK276) | ((with_reducible refine gate_callee (f := 64) rfl ?_); refine zL (some 10) Try.func64 #[.agg #[.int .i64 a0_0, .int .i64 a0_1, .int .i64 a0_2, .int .i64 a0_3, .int .i64 a0_4]] ?_; (with_reducible refine (impl_RulesOk.calls a0_0 a0_1 a0_2 a0_3 a0_4 true _ A4.out).mono ?_); rintro e w24 ⟨rfl, hb⟩; refine ⟨_, rfl, ?_⟩; replace BK276 := zb BK276 hb; replace HB := zB HB hb; (try clear hb)) | (go_at_call 37; (with_reducible refine (impl_MarksOk.calls _ _ l1 false _ ?side1 ?side2 A6.out).mono ?_); (case side1 => repeat (first | exact (Kd.C_below HR1.out HB.out) | (with_reducible refine Kd.C_alloc ?_ _) | (with_reducible refine Kd.C_drewN ?_ _) | (with_reducible refine Kd.C_drew ?_))); (case side2 => exact HC1.out); rintro e w25 ⟨rfl, hb⟩; replace BK276 := zb BK276 hb; replace HB := zB HB hb; (try clear hb)))
      go_ret
      exact ⟨by first | rfl | (simp [errW_none, errW_some] <;> rfl) | (simp [*, errW_none, errW_some] <;> rfl), by repeat (first | (with_reducible first | exact HB.out | apply below_alloc | apply pw_below_drewN | apply below_drew1 | refine below_set ?_ GE276.out) | exact HB.out)⟩
  · replace c5 := Bool.eq_false_iff.mpr c5
    subst c5
    have H1 : (some (-1)) = some r := by rw [if_neg (show ¬ (false = true) by decide)] at H; exact H
    clear H
    have H := H1
    clear H1
    obtain rfl := Option.some.inj H
    go_enter Try.func44, Try.ntmps44
    go_wp2_with (first | ((with_reducible refine gate_dst (N := 3) rfl ?_); refine zx 3 #[.int .i64 a0_0, .int .i64 a0_1, .int .i64 a0_2, .int .i64 a0_3, .int .i64 a0_4] 24 ?_; intro gb276 hg w26 hbox hb; have BK276 := Aside0.mk (hbox); have GW276 := zge HB hg; have GE276 := GW276; replace HB := zB HB hb; clear hb hbox hg; obtain ⟨hcz27_0, hcz27_1, hcz27_2, hcz27_3, hcz27_4, hfz27_0, hfz27_1, hfz27_2, hfz27_3, hfz27_4⟩ := zs5 BK276) | ((with_reducible refine gate_callee (f := 64) rfl ?_); refine zL (some 10) Try.func64 #[.agg #[.int .i64 a0_0, .int .i64 a0_1, .int .i64 a0_2, .int .i64 a0_3, .int .i64 a0_4]] ?_; (with_reducible refine (impl_RulesOk.calls a0_0 a0_1 a0_2 a0_3 a0_4 false _ A4.out).mono ?_); rintro e w28 ⟨rfl, hb⟩; refine ⟨_, rfl, ?_⟩; replace BK276 := zb BK276 hb; replace HB := zB HB hb; (try clear hb)))
    go_ret
    exact ⟨by first | rfl | (simp [errW_none, errW_some] <;> rfl) | (simp [*, errW_none, errW_some] <;> rfl), by repeat (first | (with_reducible first | exact HB.out | apply below_alloc | apply pw_below_drewN | apply below_drew1 | refine below_set ?_ GE276.out) | exact HB.out)⟩

end Go.Proofs.Ytommdabkkgcgbaa.QFnWide
