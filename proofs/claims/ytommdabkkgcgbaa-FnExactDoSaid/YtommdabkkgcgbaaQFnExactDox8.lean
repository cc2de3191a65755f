-- Written by a program of this session (wip/tools/turnprint.py over the kit's print), for this claim: functions as plain Lean and their contracts.
import Derived.Test.YtommdabkkgcgbaaQFnExactDox0
import Derived.Test.YtommdabkkgcgbaaQFnExactDox6
import Derived.Test.YtommdabkkgcgbaaQFnExactDox7
namespace Go.Proofs.Ytommdabkkgcgbaa.QFnExactDo
open Go.RowKit Go.Proofs.YtommdabkkgcgbaaW.PrintWords Go.Proofs.YtommdabkkgcgbaaW.PrintLast Go.Proofs.YtommdabkkgcgbaaW.PrintMore
attribute [local go_sem] max2_int min2_int max_two min_two max_three min_three max_four min_four   -- for this text's walks alone
set_option linter.unusedVariables false
set_option linter.unusedSimpArgs false

/-! ### spec_l1most: function 84 -/
def spec_l1most.l0 : Nat → Int → Int → Int → Int → Int → Int → Int → Int → Option (Int)
 | 0, _, _, _, _, _, _, _, _ => none
 | k + 1, x1, x5, x6, x214000, x214001, x214002, x214003, x214004 => (spec_l1fair.f x214000 x214001 x214002 x214003 x214004 x6 x1).bind fun t214 => (if t214 = true then (spec_l1most.l0 k x1 x6 (wrap64 (x6 + 1)) x214000 x214001 x214002 x214003 x214004) else (some x5))
def spec_l1most.f (k : Nat) (a0_0 : Int) (a0_1 : Int) (a0_2 : Int) (a0_3 : Int) (a0_4 : Int) (a1 : Int) : Option (Int) := spec_l1most.l0 k a1 a1 a1 a0_0 a0_1 a0_2 a0_3 a0_4
theorem spec_l1most.mono_l : ∀ k, (∀ y0 y1 y2 y3 y4 y5 y6 y7, LeO (spec_l1most.l0 k y0 y1 y2 y3 y4 y5 y6 y7) (spec_l1most.l0 (k + 1) y0 y1 y2 y3 y4 y5 y6 y7))
 | 0 => fun _ _ _ _ _ _ _ _ r h => by simp [spec_l1most.l0] at h
 | k + 1 => by
  have ih0 := spec_l1most.mono_l k
  ·intro y0 y1 y2 y3 y4 y5 y6 y7
   unfold spec_l1most.l0
   repeat' first
   | (with_reducible exact ih0 _ _ _ _ _ _ _ _)
   | (with_reducible exact LeO.refl _)
   | (with_reducible exact LeO.none _)
   | (with_reducible refine LeO.ite ?_ ?_)
   | (with_reducible refine LeO.bind ?_ (fun _ => ?_))
   | exact ih0 _ _ _ _ _ _ _ _
   | exact LeO.none _
   | refine LeO.ite ?_ ?_
   | refine LeO.bind ?_ (fun _ => ?_)
theorem spec_l1most.mono : ∀ a0 a1 a2 a3 a4 a5 k, LeO (spec_l1most.f k a0 a1 a2 a3 a4 a5) (spec_l1most.f (k + 1) a0 a1 a2 a3 a4 a5) := by
 intro a0 a1 a2 a3 a4 a5 k
 have ih0 := spec_l1most.mono_l k
 unfold spec_l1most.f
 repeat' first
   | (with_reducible exact ih0 _ _ _ _ _ _ _ _)
   | (with_reducible exact LeO.refl _)
   | (with_reducible exact LeO.none _)
   | (with_reducible refine LeO.ite ?_ ?_)
   | (with_reducible refine LeO.bind ?_ (fun _ => ?_))
   | exact ih0 _ _ _ _ _ _ _ _
   | exact LeO.none _
   | refine LeO.ite ?_ ?_
   | refine LeO.bind ?_ (fun _ => ?_)
set_option maxHeartbeats 8000000 in
set_option maxRecDepth 100000 in
theorem spec_l1most.calls (k : Nat) (a0_0 : Int) (a0_1 : Int) (a0_2 : Int) (a0_3 : Int) (a0_4 : Int) (a1 : Int) (r : Int) (w : World) (h : spec_l1most.f k a0_0 a0_1 a0_2 a0_3 a0_4 a1 = some r) :
  Calls Try.prog 84 #[.agg #[.int .i64 a0_0, .int .i64 a0_1, .int .i64 a0_2, .int .i64 a0_3, .int .i64 a0_4], .int .i64 a1] w fun e w' => e = .returned (.int .i64 r) ∧ Below w.heap.size w w' := by
 have hu24 := Try.underlying24
 have HB := Aside0.mk (Below.refl w.heap.size w)
 have H : (spec_l1most.l0 k a1 a1 a1 a0_0 a0_1 a0_2 a0_3 a0_4) = some r := h
 clear h
 have H' := Aside0.mk H
 clear H
 go_enter Try.func84, Try.ntmps84
 go_wp2_with (first | ((with_reducible refine gate_dst (N := 2) rfl ?_); refine zx 2 #[.int .i64 a0_0, .int .i64 a0_1, .int .i64 a0_2, .int .i64 a0_3, .int .i64 a0_4] 24 ?_; intro gb213 hg w3 hbox hb; have BK213 := Aside0.mk (hbox); have GW213 := zge HB hg; have GE213 := GW213; replace HB := zB HB hb; clear hb hbox hg))
 go_loopg [5, 6] k (fun kq v5 v6 w' => ∃ (x5_1 : Int) (x6_1 : Int), v5 = .int .i64 x5_1 ∧ v6 = .int .i64 x6_1 ∧ Aside0 (spec_l1most.l0 kq a1 x5_1 x6_1 a0_0 a0_1 a0_2 a0_3 a0_4 = some r) ∧ Aside0 (kq ≤ k) ∧ Aside0 (w'.heap[gb213]? = some (.cells #[.int .i64 a0_0, .int .i64 a0_1, .int .i64 a0_2, .int .i64 a0_3, .int .i64 a0_4] 24 (0, 0))) ∧ Aside0 (Below w.heap.size w w'))
 case atStart => exact ⟨(a1), (a1), ze, ze, H', ⟨Nat.le_refl _⟩, ⟨zy BK213⟩, ⟨by repeat (first | (with_reducible first | exact HB.out | apply below_alloc | apply pw_below_drewN | apply below_drew1 | refine below_set ?_ GE213.out) | exact HB.out)⟩⟩
 case round =>
  clear H'
  (try clear p2)
  obtain ⟨x5_1, x6_1, rfl, rfl, HA, HK1, BK213, HB⟩ := hrel
  cases gk with
  | zero => exact absurd HA.out (by simp [spec_l1most.l0])
  | succ k1 =>
   have H := HA.out
   clear HA
   simp only [spec_l1most.l0] at H
   replace H := Option.bind_eq_some_iff.mp H
   obtain ⟨t214, A40, H⟩ := H
   replace H : (if t214 = true then (spec_l1most.l0 k1 a1 x6_1 (wrap64 (x6_1 + 1)) a0_0 a0_1 a0_2 a0_3 a0_4) else (some x5_1)) = some r := H
   have A4 := Aside0.mk A40
   clear A40
   by_cases c5 : t214 = true
   ·subst c5
    have H1 : (spec_l1most.l0 k1 a1 x6_1 (wrap64 (x6_1 + 1)) a0_0 a0_1 a0_2 a0_3 a0_4) = some r := by rw [if_pos rfl] at H; exact H
    clear H
    have H := H1
    clear H1
    have H' := Aside0.mk H
    clear H
    obtain ⟨hcz6_0, hcz6_1, hcz6_2, hcz6_3, hcz6_4, hfz6_0, hfz6_1, hfz6_2, hfz6_3, hfz6_4⟩ := zs5 BK213
    go_wp2_with (first | ((with_reducible refine gate_callee (f := 99) rfl ?_); refine zL (some 12) Try.func99 #[.agg #[.int .i64 a0_0, .int .i64 a0_1, .int .i64 a0_2, .int .i64 a0_3, .int .i64 a0_4], .int .i64 x6_1, .int .i64 a1] ?_; (with_reducible refine (spec_l1fair.calls a0_0 a0_1 a0_2 a0_3 a0_4 x6_1 a1 true _ A4.out).mono ?_); rintro e w7 ⟨rfl, hb⟩; refine ⟨_, rfl, ?_⟩; replace BK213 := zb BK213 hb; replace HB := zB HB hb; (try clear hb)))
    go_roundg k1
    case measure => have := HK1.out; omega
    case rel => exact ⟨(x6_1), (wrap64 (x6_1 + 1)), ze, ze, H', ⟨by have := HK1.out; omega⟩, ⟨zy BK213⟩, ⟨by repeat (first | (with_reducible first | exact HB.out | apply below_alloc | apply pw_below_drewN | apply below_drew1 | refine below_set ?_ GE213.out) | exact HB.out)⟩⟩
   ·replace c5 := Bool.eq_false_iff.mpr c5
    subst c5
    have H1 : (some x5_1) = some r := by rw [if_neg (show ¬ (false = true) by decide)] at H; exact H
    clear H
    have H := H1
    clear H1
    obtain rfl := Option.some.inj H
    obtain ⟨hcz8_0, hcz8_1, hcz8_2, hcz8_3, hcz8_4, hfz8_0, hfz8_1, hfz8_2, hfz8_3, hfz8_4⟩ := zs5 BK213
    go_wp2_with (first | ((with_reducible refine gate_callee (f := 99) rfl ?_); refine zL (some 12) Try.func99 #[.agg #[.int .i64 a0_0, .int .i64 a0_1, .int .i64 a0_2, .int .i64 a0_3, .int .i64 a0_4], .int .i64 x6_1, .int .i64 a1] ?_; (with_reducible refine (spec_l1fair.calls a0_0 a0_1 a0_2 a0_3 a0_4 x6_1 a1 false _ A4.out).mono ?_); rintro e w9 ⟨rfl, hb⟩; refine ⟨_, rfl, ?_⟩; replace BK213 := zb BK213 hb; replace HB := zB HB hb; (try clear hb)))
    go_ret
    exact ⟨by first | rfl | (simp [errW_none, errW_some] <;> rfl) | (simp [*, errW_none, errW_some] <;> rfl), by repeat (first | (with_reducible first | exact HB.out | apply below_alloc | apply pw_below_drewN | apply below_drew1 | refine below_set ?_ GE213.out) | exact HB.out)⟩

/-! ### spec_l1least: function 85 -/
def spec_l1least.l0 : Nat → Int → Int → Int → Int → Int → Int → Int → Int → Option (Int)
 | 0, _, _, _, _, _, _, _, _ => none
 | k + 1, x1, x5, x6, x216000, x216001, x216002, x216003, x216004 => if x6 ≥ 0 then ((spec_l1fair.f x216000 x216001 x216002 x216003 x216004 x6 x1).bind fun t216 => (if t216 = true then (spec_l1least.l0 k x1 x6 (wrap64 (x6 - 1)) x216000 x216001 x216002 x216003 x216004) else (some x5))) else (some x5)
def spec_l1least.f (k : Nat) (a0_0 : Int) (a0_1 : Int) (a0_2 : Int) (a0_3 : Int) (a0_4 : Int) (a1 : Int) : Option (Int) := spec_l1least.l0 k a1 a1 a1 a0_0 a0_1 a0_2 a0_3 a0_4
theorem spec_l1least.mono_l : ∀ k, (∀ y0 y1 y2 y3 y4 y5 y6 y7, LeO (spec_l1least.l0 k y0 y1 y2 y3 y4 y5 y6 y7) (spec_l1least.l0 (k + 1) y0 y1 y2 y3 y4 y5 y6 y7))
 | 0 => fun _ _ _ _ _ _ _ _ r h => by simp [spec_l1least.l0] at h
 | k + 1 => by
  have ih0 := spec_l1least.mono_l k
  ·intro y0 y1 y2 y3 y4 y5 y6 y7
   unfold spec_l1least.l0
   repeat' first
   | (with_reducible exact ih0 _ _ _ _ _ _ _ _)
   | (with_reducible exact LeO.refl _)
   | (with_reducible exact LeO.none _)
   | (with_reducible refine LeO.ite ?_ ?_)
   | (with_reducible refine LeO.bind ?_ (fun _ => ?_))
   | exact ih0 _ _ _ _ _ _ _ _
   | exact LeO.none _
   | refine LeO.ite ?_ ?_
   | refine LeO.bind ?_ (fun _ => ?_)
theorem spec_l1least.mono : ∀ a0 a1 a2 a3 a4 a5 k, LeO (spec_l1least.f k a0 a1 a2 a3 a4 a5) (spec_l1least.f (k + 1) a0 a1 a2 a3 a4 a5) := by
 intro a0 a1 a2 a3 a4 a5 k
 have ih0 := spec_l1least.mono_l k
 unfold spec_l1least.f
 repeat' first
   | (with_reducible exact ih0 _ _ _ _ _ _ _ _)
   | (with_reducible exact LeO.refl _)
   | (with_reducible exact LeO.none _)
   | (with_reducible refine LeO.ite ?_ ?_)
   | (with_reducible refine LeO.bind ?_ (fun _ => ?_))
   | exact ih0 _ _ _ _ _ _ _ _
   | exact LeO.none _
   | refine LeO.ite ?_ ?_
   | refine LeO.bind ?_ (fun _ => ?_)
set_option maxHeartbeats 8000000 in
set_option maxRecDepth 100000 in
theorem spec_l1least.calls (k : Nat) (a0_0 : Int) (a0_1 : Int) (a0_2 : Int) (a0_3 : Int) (a0_4 : Int) (a1 : Int) (r : Int) (w : World) (h : spec_l1least.f k a0_0 a0_1 a0_2 a0_3 a0_4 a1 = some r) :
  Calls Try.prog 85 #[.agg #[.int .i64 a0_0, .int .i64 a0_1, .int .i64 a0_2, .int .i64 a0_3, .int .i64 a0_4], .int .i64 a1] w fun e w' => e = .returned (.int .i64 r) ∧ Below w.heap.size w w' := by
 have hu24 := Try.underlying24
 have HB := Aside0.mk (Below.refl w.heap.size w)
 have H : (spec_l1least.l0 k a1 a1 a1 a0_0 a0_1 a0_2 a0_3 a0_4) = some r := h
 clear h
 have H' := Aside0.mk H
 clear H
 go_enter Try.func85, Try.ntmps85
 go_wp2_with (first | ((with_reducible refine gate_dst (N := 2) rfl ?_); refine zx 2 #[.int .i64 a0_0, .int .i64 a0_1, .int .i64 a0_2, .int .i64 a0_3, .int .i64 a0_4] 24 ?_; intro gb215 hg w3 hbox hb; have BK215 := Aside0.mk (hbox); have GW215 := zge HB hg; have GE215 := GW215; replace HB := zB HB hb; clear hb hbox hg))
 go_loopg [5, 6] k (fun kq v5 v6 w' => ∃ (x5_1 : Int) (x6_1 : Int), v5 = .int .i64 x5_1 ∧ v6 = .int .i64 x6_1 ∧ Aside0 (spec_l1least.l0 kq a1 x5_1 x6_1 a0_0 a0_1 a0_2 a0_3 a0_4 = some r) ∧ Aside0 (kq ≤ k) ∧ Aside0 (w'.heap[gb215]? = some (.cells #[.int .i64 a0_0, .int .i64 a0_1, .int .i64 a0_2, .int .i64 a0_3, .int .i64 a0_4] 24 (0, 0))) ∧ Aside0 (Below w.heap.size w w'))
 case atStart => exact ⟨(a1), (a1), ze, ze, H', ⟨Nat.le_refl _⟩, ⟨zy BK215⟩, ⟨by repeat (first | (with_reducible first | exact HB.out | apply below_alloc | apply pw_below_drewN | apply below_drew1 | refine below_set ?_ GE215.out) | exact HB.out)⟩⟩
 case round =>
  clear H'
  (try clear p2)
  obtain ⟨x5_1, x6_1, rfl, rfl, HA, HK1, BK215, HB⟩ := hrel
  cases gk with
  | zero => exact absurd HA.out (by simp [spec_l1least.l0])
  | succ k1 =>
   have H := HA.out
   clear HA
   simp only [spec_l1least.l0] at H
   by_cases c4 : x6_1 ≥ 0
   ·rw [if_pos c4] at H
    have c4b0 : decide (0 ≤ x6_1) = true := decide_eq_true c4
    clear c4
    replace H := Option.bind_eq_some_iff.mp H
    obtain ⟨t216, A50, H⟩ := H
    replace H : (if t216 = true then (spec_l1least.l0 k1 a1 x6_1 (wrap64 (x6_1 - 1)) a0_0 a0_1 a0_2 a0_3 a0_4) else (some x5_1)) = some r := H
    have A5 := Aside0.mk A50
    clear A50
    by_cases c6 : t216 = true
    ·subst c6
     have H1 : (spec_l1least.l0 k1 a1 x6_1 (wrap64 (x6_1 - 1)) a0_0 a0_1 a0_2 a0_3 a0_4) = some r := by rw [if_pos rfl] at H; exact H
     clear H
     have H := H1
     clear H1
     have H' := Aside0.mk H
     clear H
     obtain ⟨hcz7_0, hcz7_1, hcz7_2, hcz7_3, hcz7_4, hfz7_0, hfz7_1, hfz7_2, hfz7_3, hfz7_4⟩ := zs5 BK215
     go_wp2_with (first | (go_at_call 99; (with_reducible refine (spec_l1fair.calls a0_0 a0_1 a0_2 a0_3 a0_4 x6_1 a1 true _ A5.out).mono ?_); rintro e w8 ⟨rfl, hb⟩; replace BK215 := zb BK215 hb; replace HB := zB HB hb; (try clear hb)))
     go_roundg k1
     case measure => have := HK1.out; omega
     case rel => exact ⟨(x6_1), (wrap64 (x6_1 - 1)), ze, ze, H', ⟨by have := HK1.out; omega⟩, ⟨zy BK215⟩, ⟨by repeat (first | (with_reducible first | exact HB.out | apply below_alloc | apply pw_below_drewN | apply below_drew1 | refine below_set ?_ GE215.out) | exact HB.out)⟩⟩
    ·replace c6 := Bool.eq_false_iff.mpr c6
     subst c6
     have H1 : (some x5_1) = some r := by rw [if_neg (show ¬ (false = true) by decide)] at H; exact H
     clear H
     have H := H1
     clear H1
     obtain rfl := Option.some.inj H
     obtain ⟨hcz9_0, hcz9_1, hcz9_2, hcz9_3, hcz9_4, hfz9_0, hfz9_1, hfz9_2, hfz9_3, hfz9_4⟩ := zs5 BK215
     go_wp2_with (first | (go_at_call 99; (with_reducible refine (spec_l1fair.calls a0_0 a0_1 a0_2 a0_3 a0_4 x6_1 a1 false _ A5.out).mono ?_); rintro e w10 ⟨rfl, hb⟩; replace BK215 := zb BK215 hb; replace HB := zB HB hb; (try clear hb)))
     go_ret
     exact ⟨by first | rfl | (simp [errW_none, errW_some] <;> rfl) | (simp [*, errW_none, errW_some] <;> rfl), by repeat (first | (with_reducible first | exact HB.out | apply below_alloc | apply pw_below_drewN | apply below_drew1 | refine below_set ?_ GE215.out) | exact HB.out)⟩
   ·rw [if_neg c4] at H
    have c4b0 : decide (0 ≤ x6_1) = false := decide_eq_false c4
    clear c4
    obtain rfl := Option.some.inj H
    go_wp2
    go_ret
    exact ⟨by first | rfl | (simp [errW_none, errW_some] <;> rfl) | (simp [*, errW_none, errW_some] <;> rfl), by repeat (first | (with_reducible first | exact HB.out | apply below_alloc | apply pw_below_drewN | apply below_drew1 | refine below_set ?_ GE215.out) | exact HB.out)⟩

/-! ### spec_Wheel: function 70 -/
def spec_Wheel.j0 : Nat → Int → Bool → Int → Int → Int → Int → Int → Int → Int → Option (Int × Int)
 | 0, _, _, _, _, _, _, _, _, _ => none
 | k + 1, x2, x15, x218000, x218001, x218002, x218003, x218004, x219000, x219001 => if x15 = true then (some (0, 0)) else ((spec_l1least.f k x218000 x218001 x218002 x218003 x218004 x2).bind fun t222 => ((spec_l1most.f k x218000 x218001 x218002 x218003 x218004 x2).bind fun t223 => ((spec_l1clip.f k (wrap64 (x219000 + t222)) (wrap64 (x219001 + t223))).bind fun bt224 => (some (bt224.1, bt224.2)))))
def spec_Wheel.f (k : Nat) (a0_0 : Int) (a0_1 : Int) (a0_2 : Int) (a0_3 : Int) (a0_4 : Int) (a1_0 : Int) (a1_1 : Int) (a2 : Int) : Option (Int × Int) := (spec_l1good.f a0_0 a0_1 a0_2 a0_3 a0_4 a1_0 a1_1).bind fun t220 => (if t220 = true then ((spec_l1in.f a2 0 100000).bind fun t221 => (spec_Wheel.j0 k a2 (!t221) a0_0 a0_1 a0_2 a0_3 a0_4 a1_0 a1_1)) else (spec_Wheel.j0 k a2 true a0_0 a0_1 a0_2 a0_3 a0_4 a1_0 a1_1))
theorem spec_Wheel.mono_l : ∀ k, (∀ y0 y1 y2 y3 y4 y5 y6 y7 y8, LeO (spec_Wheel.j0 k y0 y1 y2 y3 y4 y5 y6 y7 y8) (spec_Wheel.j0 (k + 1) y0 y1 y2 y3 y4 y5 y6 y7 y8))
 | 0 => fun _ _ _ _ _ _ _ _ _ r h => by simp [spec_Wheel.j0] at h
 | k + 1 => by
  have ih0 := spec_Wheel.mono_l k
  ·intro y0 y1 y2 y3 y4 y5 y6 y7 y8
   unfold spec_Wheel.j0
   repeat' first
   | (with_reducible exact ih0 _ _ _ _ _ _ _ _ _)
   | (with_reducible exact spec_l1clip.mono _ _ _)
   | (with_reducible exact spec_l1least.mono _ _ _ _ _ _ _)
   | (with_reducible exact spec_l1most.mono _ _ _ _ _ _ _)
   | (with_reducible exact LeO.refl _)
   | (with_reducible exact LeO.none _)
   | (with_reducible refine LeO.ite ?_ ?_)
   | (with_reducible refine LeO.bind ?_ (fun _ => ?_))
   | exact ih0 _ _ _ _ _ _ _ _ _
   | exact spec_l1clip.mono _ _ _
   | exact spec_l1least.mono _ _ _ _ _ _ _
   | exact spec_l1most.mono _ _ _ _ _ _ _
   | exact LeO.none _
   | refine LeO.ite ?_ ?_
   | refine LeO.bind ?_ (fun _ => ?_)
theorem spec_Wheel.mono : ∀ a0 a1 a2 a3 a4 a5 a6 a7 k, LeO (spec_Wheel.f k a0 a1 a2 a3 a4 a5 a6 a7) (spec_Wheel.f (k + 1) a0 a1 a2 a3 a4 a5 a6 a7) := by
 intro a0 a1 a2 a3 a4 a5 a6 a7 k
 have ih0 := spec_Wheel.mono_l k
 unfold spec_Wheel.f
 repeat' first
   | (with_reducible exact ih0 _ _ _ _ _ _ _ _ _)
   | (with_reducible exact spec_l1clip.mono _ _ _)
   | (with_reducible exact spec_l1least.mono _ _ _ _ _ _ _)
   | (with_reducible exact spec_l1most.mono _ _ _ _ _ _ _)
   | (with_reducible exact LeO.refl _)
   | (with_reducible exact LeO.none _)
   | (with_reducible refine LeO.ite ?_ ?_)
   | (with_reducible refine LeO.bind ?_ (fun _ => ?_))
   | exact ih0 _ _ _ _ _ _ _ _ _
   | exact spec_l1clip.mono _ _ _
   | exact spec_l1least.mono _ _ _ _ _ _ _
   | exact spec_l1most.mono _ _ _ _ _ _ _
   | exact LeO.none _
   | refine LeO.ite ?_ ?_
   | refine LeO.bind ?_ (fun _ => ?_)
def spec_Wheel.T3 : Bool × List (List Nat × List Nat) := (true, [([], []), ([0], [0]), ([], []), ([], []), ([2, 3], [2, 3]), ([1, 4], [1, 4]), ([], []), ([6], [6]), ([], []), ([], []), ([8, 9, 4], [8, 9]), ([7, 10], [7, 10]), ([5, 11], [5, 11]), ([12, 10], [12]), ([13, 13, 0, 1, 2, 3, 4, 5, 6, 7, 8, 9, 10, 11, 12, 13], [13])])
def spec_Wheel.B3 : List Nat := [0, 1, 0, 0, 12, 31, 0, 64, 0, 0, 796, 2012, 4095, 8191, 16383]
theorem spec_Wheel.tab3 : rtab .any (opsOf Try.f70 3) = spec_Wheel.T3 := by kernel_rfl
theorem spec_Wheel.bits3 : waitsOk spec_Wheel.T3.2 spec_Wheel.B3 = true := by kernel_rfl
set_option maxHeartbeats 8000000 in
set_option maxRecDepth 100000 in
theorem spec_Wheel.calls (k : Nat) (a0_0 : Int) (a0_1 : Int) (a0_2 : Int) (a0_3 : Int) (a0_4 : Int) (a1_0 : Int) (a1_1 : Int) (a2 : Int) (r1 : Int) (r2 : Int) (w : World) (h : spec_Wheel.f k a0_0 a0_1 a0_2 a0_3 a0_4 a1_0 a1_1 a2 = some (r1, r2)) :
  Calls Try.prog 70 #[.agg #[.int .i64 a0_0, .int .i64 a0_1, .int .i64 a0_2, .int .i64 a0_3, .int .i64 a0_4], .agg #[.int .i64 a1_0, .int .i64 a1_1], .int .i64 a2] w fun e w' => e = .returned (.agg #[.int .i64 r1, .int .i64 r2]) ∧ Below w.heap.size w w' := by
 have hu24 := Try.underlying24
 have hu27 := Try.underlying27
 have HB := Aside0.mk (Below.refl w.heap.size w)
 have H : ((spec_l1good.f a0_0 a0_1 a0_2 a0_3 a0_4 a1_0 a1_1).bind fun t220 => (if t220 = true then ((spec_l1in.f a2 0 100000).bind fun t221 => (spec_Wheel.j0 k a2 (!t221) a0_0 a0_1 a0_2 a0_3 a0_4 a1_0 a1_1)) else (spec_Wheel.j0 k a2 true a0_0 a0_1 a0_2 a0_3 a0_4 a1_0 a1_1))) = some (r1, r2) := h
 clear h
 have HC4 := Aside0.mk H
 clear H
 go_enter Try.func70, Try.ntmps70
 go_upto_region 1 with (first | ((with_reducible refine gate_dst (N := 3) rfl ?_); refine zx 3 #[.int .i64 a0_0, .int .i64 a0_1, .int .i64 a0_2, .int .i64 a0_3, .int .i64 a0_4] 24 ?_; intro gb217 hg w5 hbox hb; have BK217 := Aside0.mk (hbox); have GW217 := zge HB hg; have GE217 := GW217; replace HB := zB HB hb; clear hb hbox hg) | ((with_reducible refine gate_dst (N := 4) rfl ?_); refine zx 4 #[.int .i64 a1_0, .int .i64 a1_1] 27 ?_; intro gb218 hg w6 hbox hb; have BK218 := Aside0.mk (hbox); have GW218 := zge HB hg; have GE218 := GW218; have NB217_218 := zl BK217 hg; have NB218_217 := zg BK217 hg; replace BK217 := zb BK217 hb; replace HB := zB HB hb; clear hb hbox hg) | ((with_reducible refine gate_dst (N := 6) rfl ?_); refine zx 6 #[.int .i64 0, .int .i64 0] 27 ?_; intro gb219 hg w7 hbox hb; have BK219 := Aside0.mk (hbox); have GW219 := zge HB hg; have GE219 := GW219; have NB217_219 := zl BK217 hg; have NB219_217 := zg BK217 hg; have NB218_219 := zl BK218 hg; have NB219_218 := zg BK218 hg; replace BK217 := zb BK217 hb; replace BK218 := zb BK218 hb; replace HB := zB HB hb; clear hb hbox hg))
 (try simp only [Act.put, List.setIfInBounds_toArray, List.set_cons_zero, List.set_cons_succ])
 go_cut [15] (fun v15 wc => ∃ (kq : Nat) (x15_3 : Bool), v15 = .bool x15_3 ∧ Aside0 (spec_Wheel.j0 kq a2 x15_3 a0_0 a0_1 a0_2 a0_3 a0_4 a1_0 a1_1 = some (r1, r2)) ∧ Aside0 (kq ≤ k) ∧ Aside0 (wc.heap[gb217]? = some (.cells #[.int .i64 a0_0, .int .i64 a0_1, .int .i64 a0_2, .int .i64 a0_3, .int .i64 a0_4] 24 (0, 0))) ∧ Aside0 (wc.heap[gb218]? = some (.cells #[.int .i64 a1_0, .int .i64 a1_1] 27 (0, 0))) ∧ Aside0 (wc.heap[gb219]? = some (.cells #[.int .i64 0, .int .i64 0] 27 (0, 0))) ∧ Aside0 (Below w.heap.size w wc))
 case first =>
  have H := HC4.out
  clear HC4
  replace H := Option.bind_eq_some_iff.mp H
  obtain ⟨t220, A80, H⟩ := H
  replace H : (if t220 = true then ((spec_l1in.f a2 0 100000).bind fun t221 => (spec_Wheel.j0 k a2 (!t221) a0_0 a0_1 a0_2 a0_3 a0_4 a1_0 a1_1)) else (spec_Wheel.j0 k a2 true a0_0 a0_1 a0_2 a0_3 a0_4 a1_0 a1_1)) = some (r1, r2) := H
  have A8 := Aside0.mk A80
  clear A80
  by_cases c9 : t220 = true
  ·subst c9
   have H1 : ((spec_l1in.f a2 0 100000).bind fun t221 => (spec_Wheel.j0 k a2 (!t221) a0_0 a0_1 a0_2 a0_3 a0_4 a1_0 a1_1)) = some (r1, r2) := by rw [if_pos rfl] at H; exact H
   clear H
   have H := H1
   clear H1
   replace H := Option.bind_eq_some_iff.mp H
   obtain ⟨t221, A100, H⟩ := H
   replace H : (spec_Wheel.j0 k a2 (!t221) a0_0 a0_1 a0_2 a0_3 a0_4 a1_0 a1_1) = some (r1, r2) := H
   have A10 := Aside0.mk A100
   clear A100
   have H' := Aside0.mk H
   clear H
   have hnb11 := NB217_218.out
   have hnc11 := NB218_217.out
   have hnb12 := NB217_219.out
   have hnc12 := NB219_217.out
   obtain ⟨hcz13_0, hcz13_1, hcz13_2, hcz13_3, hcz13_4, hfz13_0, hfz13_1, hfz13_2, hfz13_3, hfz13_4⟩ := zs5 BK217
   have hnb14 := NB218_219.out
   have hnc14 := NB219_218.out
   obtain ⟨hcz15_0, hcz15_1, hfz15_0, hfz15_1⟩ := zs2 BK218
   go_wp2_with (first | ((with_reducible refine gate_callee (f := 77) rfl ?_); refine zL (some 9) Try.func77 #[.agg #[.int .i64 a0_0, .int .i64 a0_1, .int .i64 a0_2, .int .i64 a0_3, .int .i64 a0_4], .agg #[.int .i64 a1_0, .int .i64 a1_1]] ?_; (with_reducible refine (spec_l1good.calls a0_0 a0_1 a0_2 a0_3 a0_4 a1_0 a1_1 true _ A8.out).mono ?_); rintro e w16 ⟨rfl, hb⟩; refine ⟨_, rfl, ?_⟩; replace BK217 := zb BK217 hb; replace BK218 := zb BK218 hb; replace BK219 := zb BK219 hb; replace HB := zB HB hb; (try clear hb)) | (go_at_call 80; (with_reducible refine (spec_l1in.calls a2 0 100000 t221 _ A10.out).mono ?_); rintro e w' ⟨rfl, ⟨nd, rfl⟩⟩))
   go_meet
   case rel => exact ⟨_, (!t221), ze, H', ⟨by first | omega | exact Nat.le_refl _⟩, ⟨zy BK217⟩, ⟨zy BK218⟩, ⟨zy BK219⟩, ⟨by repeat (first | (with_reducible first | exact HB.out | apply below_alloc | apply pw_below_drewN | apply below_drew1 | refine below_set ?_ GE217.out | refine below_set ?_ GE218.out | refine below_set ?_ GE219.out) | exact HB.out)⟩⟩
  ·replace c9 := Bool.eq_false_iff.mpr c9
   subst c9
   have H1 : (spec_Wheel.j0 k a2 true a0_0 a0_1 a0_2 a0_3 a0_4 a1_0 a1_1) = some (r1, r2) := by rw [if_neg (show ¬ (false = true) by decide)] at H; exact H
   clear H
   have H := H1
   clear H1
   have H' := Aside0.mk H
   clear H
   have hnb17 := NB217_218.out
   have hnc17 := NB218_217.out
   have hnb18 := NB217_219.out
   have hnc18 := NB219_217.out
   obtain ⟨hcz19_0, hcz19_1, hcz19_2, hcz19_3, hcz19_4, hfz19_0, hfz19_1, hfz19_2, hfz19_3, hfz19_4⟩ := zs5 BK217
   have hnb20 := NB218_219.out
   have hnc20 := NB219_218.out
   obtain ⟨hcz21_0, hcz21_1, hfz21_0, hfz21_1⟩ := zs2 BK218
   go_wp2_with (first | ((with_reducible refine gate_callee (f := 77) rfl ?_); refine zL (some 9) Try.func77 #[.agg #[.int .i64 a0_0, .int .i64 a0_1, .int .i64 a0_2, .int .i64 a0_3, .int .i64 a0_4], .agg #[.int .i64 a1_0, .int .i64 a1_1]] ?_; (with_reducible refine (spec_l1good.calls a0_0 a0_1 a0_2 a0_3 a0_4 a1_0 a1_1 false _ A8.out).mono ?_); rintro e w22 ⟨rfl, hb⟩; refine ⟨_, rfl, ?_⟩; replace BK217 := zb BK217 hb; replace BK218 := zb BK218 hb; replace BK219 := zb BK219 hb; replace HB := zB HB hb; (try clear hb)))
   go_meet
   case rel => exact ⟨_, (true), ze, H', ⟨by first | omega | exact Nat.le_refl _⟩, ⟨zy BK217⟩, ⟨zy BK218⟩, ⟨zy BK219⟩, ⟨by repeat (first | (with_reducible first | exact HB.out | apply below_alloc | apply pw_below_drewN | apply below_drew1 | refine below_set ?_ GE217.out | refine below_set ?_ GE218.out | refine below_set ?_ GE219.out) | exact HB.out)⟩⟩
 case rest =>
  clear HC4
  (try clear c1); (try clear c2); (try clear p2); (try clear c7); (try clear c9); (try clear c11); (try clear c12); (try clear c14); (try clear c17); (try clear c18); (try clear c20); (try clear hcz13_0); (try clear hcz13_1); (try clear hcz13_2); (try clear hcz13_3); (try clear hcz13_4); (try clear hcz15_0); (try clear hcz15_1); (try clear hcz19_0); (try clear hcz19_1); (try clear hcz19_2); (try clear hcz19_3); (try clear hcz19_4); (try clear hcz21_0); (try clear hcz21_1); (try clear hfz13_0); (try clear hfz13_1); (try clear hfz13_2); (try clear hfz13_3); (try clear hfz13_4); (try clear hfz15_0); (try clear hfz15_1); (try clear hfz19_0); (try clear hfz19_1); (try clear hfz19_2); (try clear hfz19_3); (try clear hfz19_4); (try clear hfz21_0); (try clear hfz21_1)
  obtain ⟨kq, x15_3, rfl, HA, HJ3, BK217, BK218, BK219, HB⟩ := hcut
  cases kq with
  | zero => exact absurd HA.out (by simp [spec_Wheel.j0])
  | succ kj3 =>
   have H := HA.out
   clear HA
   simp only [spec_Wheel.j0] at H
   by_cases c23 : x15_3 = true
   ·subst c23
    have H1 : (some (0, 0)) = some (r1, r2) := by rw [if_pos rfl] at H; exact H
    clear H
    have H := H1
    clear H1
    simp only [Option.some.injEq, Prod.mk.injEq] at H
    obtain ⟨rfl, rfl⟩ := H
    have hnb24 := NB219_217.out
    have hnc24 := NB217_219.out
    have hnb25 := NB219_218.out
    have hnc25 := NB218_219.out
    obtain ⟨hcz26_0, hcz26_1, hfz26_0, hfz26_1⟩ := zs2 BK219
    go_wp2
    refine bodyPost_ret (results_cell_row rfl _ _ gb219 27 #[.int .i64 0, .int .i64 0] (0, 0) _ rfl (by (with_reducible repeat (first | refine blk_drewN ?_ _ | refine blk_drew ?_ | refine blk_alloc ?_ _)); refine blk_put (cs := #[.int .i64 0, .int .i64 0]) ?_ 1 _ rfl; (with_reducible repeat (first | refine blk_drewN ?_ _ | refine blk_drew ?_ | refine blk_alloc ?_ _)); refine blk_put (cs := #[.int .i64 0, .int .i64 0]) ?_ 0 _ rfl; (with_reducible repeat (first | refine blk_drewN ?_ _ | refine blk_drew ?_ | refine blk_alloc ?_ _)); exact BK219.out) Try.underlying27 rfl (by kernel_rfl)) rfl ?_
    exact ⟨by first | rfl | (simp [errW_none, errW_some] <;> rfl) | (simp [*, errW_none, errW_some] <;> rfl), by repeat (first | (with_reducible first | exact HB.out | apply below_alloc | apply pw_below_drewN | apply below_drew1 | refine below_set ?_ GE217.out | refine below_set ?_ GE218.out | refine below_set ?_ GE219.out) | exact HB.out)⟩
   ·replace c23 := Bool.eq_false_iff.mpr c23
    subst c23
    have H1 : ((spec_l1least.f kj3 a0_0 a0_1 a0_2 a0_3 a0_4 a2).bind fun t222 => ((spec_l1most.f kj3 a0_0 a0_1 a0_2 a0_3 a0_4 a2).bind fun t223 => ((spec_l1clip.f kj3 (wrap64 (a1_0 + t222)) (wrap64 (a1_1 + t223))).bind fun bt224 => (some (bt224.1, bt224.2))))) = some (r1, r2) := by rw [if_neg (show ¬ (false = true) by decide)] at H; exact H
    clear H
    have H := H1
    clear H1
    replace H := Option.bind_eq_some_iff.mp H
    obtain ⟨t222, A270, H⟩ := H
    replace H : ((spec_l1most.f kj3 a0_0 a0_1 a0_2 a0_3 a0_4 a2).bind fun t223 => ((spec_l1clip.f kj3 (wrap64 (a1_0 + t222)) (wrap64 (a1_1 + t223))).bind fun bt224 => (some (bt224.1, bt224.2)))) = some (r1, r2) := H
    have A27 := Aside0.mk A270
    clear A270
    replace H := Option.bind_eq_some_iff.mp H
    obtain ⟨t223, A280, H⟩ := H
    replace H : ((spec_l1clip.f kj3 (wrap64 (a1_0 + t222)) (wrap64 (a1_1 + t223))).bind fun bt224 => (some (bt224.1, bt224.2))) = some (r1, r2) := H
    have A28 := Aside0.mk A280
    clear A280
    replace H := Option.bind_eq_some_iff.mp H
    obtain ⟨⟨t224, t225⟩, A290, H⟩ := H
    replace H : (some (t224, t225)) = some (r1, r2) := H
    have A29 := Aside0.mk A290
    clear A290
    simp only [Option.some.injEq, Prod.mk.injEq] at H
    obtain ⟨rfl, rfl⟩ := H
    try go_wp2
    have n0_ := Aside0.mk (blk_drew BK217.out)
    have n1_ := Aside0.mk (blk_drew BK218.out)
    have n2_ := Aside0.mk (blk_drew BK219.out)
    have n3_ := Aside0.mk (below_drew1 HB.out)
    clear BK217 BK218 BK219 HB
    have BK217 := n0_
    have BK218 := n1_
    have BK219 := n2_
    have HB := n3_
    clear n0_ n1_ n2_ n3_
    refine start_ (n := 15) (S := fun w' => w'.cell? ⟨gb218, 0, none⟩ = some (.int .i64 a1_0) ∧ w'.cell? ⟨gb218, 1, none⟩ = some (.int .i64 a1_1) ∧ w'.cell? ⟨gb217, 0, none⟩ = some (.int .i64 a0_0) ∧ w'.cell? ⟨gb217, 1, none⟩ = some (.int .i64 a0_1) ∧ w'.cell? ⟨gb217, 2, none⟩ = some (.int .i64 a0_2) ∧ w'.cell? ⟨gb217, 3, none⟩ = some (.int .i64 a0_3) ∧ w'.cell? ⟨gb217, 4, none⟩ = some (.int .i64 a0_4)) (ds := []) #[false, false, false, false, false, false, false, false, false, false, false, false, false, false, false] (by kernel_rfl) rfl rfl ⟨zc BK218 0, zc BK218 1, zc BK217 0, zc BK217 1, zc BK217 2, zc BK217 3, zc BK217 4⟩ (fun hHeld => ?_); refine with_tabW spec_Wheel.tab3 spec_Wheel.bits3 (fun HT_ HW_ => ?_)
    generalize wc.drew = w30 at BK217 BK218 BK219 HB hHeld ⊢
    refine zp 0 17 (zm 15 1) HT_ ?_
    refine zp 3 20 (zm 15 9) HT_ ?_
    refine zp 6 23 (zm 15 73) HT_ ?_
    refine zp 9 26 (zm 15 585) HT_ ?_
    refine zt 1 18 (zm 15 587) HT_ HW_ hHeld ?_
    refine zt 2 19 (zm 15 591) HT_ HW_ hHeld ?_
    refine zt 7 24 (zm 15 719) HT_ HW_ hHeld ?_
    refine zt 8 25 (zm 15 975) HT_ HW_ hHeld ?_
    refine zo 4 (some 21) (zm 15 991) HT_ (fun K hK => ?_)
    refine zG Try.func85 #[.agg #[.int .i64 a0_0, .int .i64 a0_1, .int .i64 a0_2, .int .i64 a0_3, .int .i64 a0_4], .int .i64 a2] ?_
    with_reducible refine (spec_l1least.calls kj3 a0_0 a0_1 a0_2 a0_3 a0_4 a2 t222 _ A27.out).mono ?_
    rintro e w31 ⟨rfl, hb⟩
    refine ⟨_, rfl, ?_⟩
    replace BK217 := zb BK217 hb
    replace BK218 := zb BK218 hb
    replace BK219 := zb BK219 hb
    replace HB := zB HB hb
    (try clear hb)
    refine hK.out _ _ ⟨zc BK218 0, zc BK218 1, zc BK217 0, zc BK217 1, zc BK217 2, zc BK217 3, zc BK217 4⟩ (fun hHeld => ?_)
    clear hK K
    refine zn 21 ?_
    refine zp 5 22 (zm 15 1023) HT_ ?_
    refine zo 10 (some 27) (zm 15 2047) HT_ (fun K hK => ?_)
    refine zG Try.func84 #[.agg #[.int .i64 a0_0, .int .i64 a0_1, .int .i64 a0_2, .int .i64 a0_3, .int .i64 a0_4], .int .i64 a2] ?_
    with_reducible refine (spec_l1most.calls kj3 a0_0 a0_1 a0_2 a0_3 a0_4 a2 t223 _ A28.out).mono ?_
    rintro e w32 ⟨rfl, hb⟩
    refine ⟨_, rfl, ?_⟩
    replace BK217 := zb BK217 hb
    replace BK218 := zb BK218 hb
    replace BK219 := zb BK219 hb
    replace HB := zB HB hb
    (try clear hb)
    refine hK.out _ _ ⟨zc BK218 0, zc BK218 1, zc BK217 0, zc BK217 1, zc BK217 2, zc BK217 3, zc BK217 4⟩ (fun hHeld => ?_)
    clear hK K
    refine zn 27 ?_
    refine zp 11 28 (zm 15 4095) HT_ ?_
    refine zp 12 29 (zm 15 8191) HT_ ?_
    refine zo 13 (some 30) (zm 15 16383) HT_ (fun K hK => ?_)
    refine zG Try.func71 #[.agg #[.int .i64 (wrap64 (a1_0 + t222)), .int .i64 (wrap64 (a1_1 + t223))]] ?_
    with_reducible refine (spec_l1clip.calls kj3 (wrap64 (a1_0 + t222)) (wrap64 (a1_1 + t223)) t224 t225 _ A29.out).mono ?_
    rintro e w33 ⟨rfl, hb⟩
    refine ⟨_, rfl, ?_⟩
    replace BK217 := zb BK217 hb
    replace BK218 := zb BK218 hb
    replace BK219 := zb BK219 hb
    replace HB := zB HB hb
    (try clear hb)
    refine hK.out _ _ ⟨zc BK218 0, zc BK218 1, zc BK217 0, zc BK217 1, zc BK217 2, zc BK217 3, zc BK217 4⟩ (fun hHeld => ?_)
    clear hK K
    refine zn 30 ?_
    refine zo 14 (none) (zm 15 32767) HT_ (fun K hK => ?_)
    have hs34 : w33.cell? ⟨gb219, 0, none⟩ = some (.int .i64 0) := zc BK219 0
    have hfs34 := blk_frozen BK219.out 0
    have hns34_0 := NB217_219.out
    have hns34_1 := NB218_219.out
    have hms34_0 := NB219_217.out
    have hms34_1 := NB219_218.out
    have hs35 : w33.cell? ⟨gb219, 1, none⟩ = some (.int .i64 0) := zc BK219 1
    have hfs35 := blk_frozen BK219.out 1
    have hns35_0 := NB217_219.out
    have hns35_1 := NB218_219.out
    have hms35_0 := NB219_217.out
    have hms35_1 := NB219_218.out
    refine skip_ (w1 := ?_) (by rfl) rfl ?_ ?_
    rotate_left
    ·go_simp
     rfl
    refine hK.out _ _ ⟨((cell_far (p := ⟨gb219, _, none⟩) NB218_219.out _).trans (((cell_far (p := ⟨gb219, _, none⟩) NB218_219.out _).trans (hHeld.1)))), ((cell_far (p := ⟨gb219, _, none⟩) NB218_219.out _).trans (((cell_far (p := ⟨gb219, _, none⟩) NB218_219.out _).trans (hHeld.2.1)))), ((cell_far (p := ⟨gb219, _, none⟩) NB217_219.out _).trans (((cell_far (p := ⟨gb219, _, none⟩) NB217_219.out _).trans (hHeld.2.2.1)))), ((cell_far (p := ⟨gb219, _, none⟩) NB217_219.out _).trans (((cell_far (p := ⟨gb219, _, none⟩) NB217_219.out _).trans (hHeld.2.2.2.1)))), ((cell_far (p := ⟨gb219, _, none⟩) NB217_219.out _).trans (((cell_far (p := ⟨gb219, _, none⟩) NB217_219.out _).trans (hHeld.2.2.2.2.1)))), ((cell_far (p := ⟨gb219, _, none⟩) NB217_219.out _).trans (((cell_far (p := ⟨gb219, _, none⟩) NB217_219.out _).trans (hHeld.2.2.2.2.2.1)))), ((cell_far (p := ⟨gb219, _, none⟩) NB217_219.out _).trans (((cell_far (p := ⟨gb219, _, none⟩) NB217_219.out _).trans (hHeld.2.2.2.2.2.2))))⟩ (fun hHeld => ?_)
    clear hK K
    refine done_ (done_of HT_.out (by kernel_rfl)) ?_
    try go_wp2
    refine bodyPost_ret (results_cell_row rfl _ _ gb219 27 #[.int .i64 t224, .int .i64 t225] (0, 0) _ rfl (by (with_reducible repeat (first | refine blk_drewN ?_ _ | refine blk_drew ?_ | refine blk_alloc ?_ _)); refine blk_put (cs := #[.int .i64 t224, .int .i64 0]) ?_ 1 _ rfl; (with_reducible repeat (first | refine blk_drewN ?_ _ | refine blk_drew ?_ | refine blk_alloc ?_ _)); refine blk_put (cs := #[.int .i64 0, .int .i64 0]) ?_ 0 _ rfl; (with_reducible repeat (first | refine blk_drewN ?_ _ | refine blk_drew ?_ | refine blk_alloc ?_ _)); exact BK219.out) Try.underlying27 rfl (by kernel_rfl)) rfl ?_
    exact ⟨by first | rfl | (simp [errW_none, errW_some] <;> rfl) | (simp [*, errW_none, errW_some] <;> rfl), by repeat (first | (with_reducible first | exact HB.out | apply below_alloc | apply pw_below_drewN | apply below_drew1 | refine below_set ?_ GE217.out | refine below_set ?_ GE218.out | refine below_set ?_ GE219.out) | exact HB.out)⟩

/-! ### spec_Meets: function 72 -/
def spec_Meets.f (a0_0 : Int) (a0_1 : Int) (a1_0 : Int) (a1_1 : Int) : Option (Bool) := if a0_0 ≤ a1_1 then (some (decide (a1_0 ≤ a0_1))) else (some false)
set_option maxHeartbeats 8000000 in
set_option maxRecDepth 100000 in
theorem spec_Meets.calls (a0_0 : Int) (a0_1 : Int) (a1_0 : Int) (a1_1 : Int) (r : Bool) (w : World) (h : spec_Meets.f a0_0 a0_1 a1_0 a1_1 = some r) :
  Calls Try.prog 72 #[.agg #[.int .i64 a0_0, .int .i64 a0_1], .agg #[.int .i64 a1_0, .int .i64 a1_1]] w fun e w' => e = .returned (.bool r) ∧ Below w.heap.size w w' := by
 have hu27 := Try.underlying27
 have HB := Aside0.mk (Below.refl w.heap.size w)
 have H : (if a0_0 ≤ a1_1 then (some (decide (a1_0 ≤ a0_1))) else (some false)) = some r := h
 clear h
 by_cases c3 : a0_0 ≤ a1_1
 ·rw [if_pos c3] at H
  have c3b0 : decide (a0_0 ≤ a1_1) = true := decide_eq_true c3
  clear c3
  obtain rfl := Option.some.inj H
  go_enter Try.func72, Try.ntmps72
  go_wp2_with (first | ((with_reducible refine gate_dst (N := 2) rfl ?_); refine zx 2 #[.int .i64 a0_0, .int .i64 a0_1] 27 ?_; intro gb226 hg w4 hbox hb; have BK226 := Aside0.mk (hbox); have GW226 := zge HB hg; have GE226 := GW226; replace HB := zB HB hb; clear hb hbox hg) | ((with_reducible refine gate_dst (N := 3) rfl ?_); refine zx 3 #[.int .i64 a1_0, .int .i64 a1_1] 27 ?_; intro gb227 hg w5 hbox hb; have BK227 := Aside0.mk (hbox); have GW227 := zge HB hg; have GE227 := GW227; have NB226_227 := zl BK226 hg; have NB227_226 := zg BK226 hg; replace BK226 := zb BK226 hb; replace HB := zB HB hb; clear hb hbox hg; have hnb6 := NB226_227.out; have hnc6 := NB227_226.out; obtain ⟨hcz7_0, hcz7_1, hfz7_0, hfz7_1⟩ := zs2 BK226; obtain ⟨hcz8_0, hcz8_1, hfz8_0, hfz8_1⟩ := zs2 BK227))
  go_ret
  exact ⟨by first | rfl | (simp [errW_none, errW_some] <;> rfl) | (simp [*, errW_none, errW_some] <;> rfl), by repeat (first | (with_reducible first | exact HB.out | apply below_alloc | apply pw_below_drewN | apply below_drew1 | refine below_set ?_ GE226.out | refine below_set ?_ GE227.out) | exact HB.out)⟩
 ·rw [if_neg c3] at H
  have c3b0 : decide (a0_0 ≤ a1_1) = false := decide_eq_false c3
  clear c3
  obtain rfl := Option.some.inj H
  go_enter Try.func72, Try.ntmps72
  go_wp2_with (first | ((with_reducible refine gate_dst (N := 2) rfl ?_); refine zx 2 #[.int .i64 a0_0, .int .i64 a0_1] 27 ?_; intro gb226 hg w9 hbox hb; have BK226 := Aside0.mk (hbox); have GW226 := zge HB hg; have GE226 := GW226; replace HB := zB HB hb; clear hb hbox hg) | ((with_reducible refine gate_dst (N := 3) rfl ?_); refine zx 3 #[.int .i64 a1_0, .int .i64 a1_1] 27 ?_; intro gb227 hg w10 hbox hb; have BK227 := Aside0.mk (hbox); have GW227 := zge HB hg; have GE227 := GW227; have NB226_227 := zl BK226 hg; have NB227_226 := zg BK226 hg; replace BK226 := zb BK226 hb; replace HB := zB HB hb; clear hb hbox hg; have hnb11 := NB226_227.out; have hnc11 := NB227_226.out; obtain ⟨hcz12_0, hcz12_1, hfz12_0, hfz12_1⟩ := zs2 BK226; obtain ⟨hcz13_0, hcz13_1, hfz13_0, hfz13_1⟩ := zs2 BK227))
  go_ret
  exact ⟨by first | rfl | (simp [errW_none, errW_some] <;> rfl) | (simp [*, errW_none, errW_some] <;> rfl), by repeat (first | (with_reducible first | exact HB.out | apply below_alloc | apply pw_below_drewN | apply below_drew1 | refine below_set ?_ GE226.out | refine below_set ?_ GE227.out) | exact HB.out)⟩

/-! ### spec_Both: function 98 -/
def spec_Both.f (a0_0 : Int) (a0_1 : Int) (a1_0 : Int) (a1_1 : Int) : Option (Int × Int) := (spec_Meets.f a0_0 a0_1 a1_0 a1_1).bind fun t231 => (if t231 = true then (if a1_0 > a0_0 then (if a1_1 < a0_1 then (some (a1_0, a1_1)) else (some (a1_0, a0_1))) else (if a1_1 < a0_1 then (some (a0_0, a1_1)) else (some (a0_0, a0_1)))) else (some (0, 0)))
set_option maxHeartbeats 8000000 in
set_option maxRecDepth 100000 in
theorem spec_Both.calls (a0_0 : Int) (a0_1 : Int) (a1_0 : Int) (a1_1 : Int) (r1 : Int) (r2 : Int) (w : World) (h : spec_Both.f a0_0 a0_1 a1_0 a1_1 = some (r1, r2)) :
  Calls Try.prog 98 #[.agg #[.int .i64 a0_0, .int .i64 a0_1], .agg #[.int .i64 a1_0, .int .i64 a1_1]] w fun e w' => e = .returned (.agg #[.int .i64 r1, .int .i64 r2]) ∧ Below w.heap.size w w' := by
 have hu27 := Try.underlying27
 have HB := Aside0.mk (Below.refl w.heap.size w)
 have H : ((spec_Meets.f a0_0 a0_1 a1_0 a1_1).bind fun t231 => (if t231 = true then (if a1_0 > a0_0 then (if a1_1 < a0_1 then (some (a1_0, a1_1)) else (some (a1_0, a0_1))) else (if a1_1 < a0_1 then (some (a0_0, a1_1)) else (some (a0_0, a0_1)))) else (some (0, 0)))) = some (r1, r2) := h
 clear h
 replace H := Option.bind_eq_some_iff.mp H
 obtain ⟨t231, A30, H⟩ := H
 replace H : (if t231 = true then (if a1_0 > a0_0 then (if a1_1 < a0_1 then (some (a1_0, a1_1)) else (some (a1_0, a0_1))) else (if a1_1 < a0_1 then (some (a0_0, a1_1)) else (some (a0_0, a0_1)))) else (some (0, 0))) = some (r1, r2) := H
 have A3 := Aside0.mk A30
 clear A30
 by_cases c4 : t231 = true
 ·subst c4
  have H1 : (if a1_0 > a0_0 then (if a1_1 < a0_1 then (some (a1_0, a1_1)) else (some (a1_0, a0_1))) else (if a1_1 < a0_1 then (some (a0_0, a1_1)) else (some (a0_0, a0_1)))) = some (r1, r2) := by rw [if_pos rfl] at H; exact H
  clear H
  have H := H1
  clear H1
  by_cases c5 : a1_0 > a0_0
  ·rw [if_pos c5] at H
   have c5b0 : decide (a0_0 < a1_0) = true := decide_eq_true c5
   clear c5
   by_cases c6 : a1_1 < a0_1
   ·rw [if_pos c6] at H
    have c6b0 : decide (a1_1 < a0_1) = true := decide_eq_true c6
    clear c6
    simp only [Option.some.injEq, Prod.mk.injEq] at H
    obtain ⟨rfl, rfl⟩ := H
    go_enter Try.func98, Try.ntmps98
    go_wp2_with (first | ((with_reducible refine gate_dst (N := 2) rfl ?_); refine zx 2 #[.int .i64 a0_0, .int .i64 a0_1] 27 ?_; intro gb228 hg w7 hbox hb; have BK228 := Aside0.mk (hbox); have GW228 := zge HB hg; have GE228 := GW228; replace HB := zB HB hb; clear hb hbox hg) | ((with_reducible refine gate_dst (N := 3) rfl ?_); refine zx 3 #[.int .i64 a1_0, .int .i64 a1_1] 27 ?_; intro gb229 hg w8 hbox hb; have BK229 := Aside0.mk (hbox); have GW229 := zge HB hg; have GE229 := GW229; have NB228_229 := zl BK228 hg; have NB229_228 := zg BK228 hg; replace BK228 := zb BK228 hb; replace HB := zB HB hb; clear hb hbox hg) | ((with_reducible refine gate_dst (N := 4) rfl ?_); refine zx 4 #[.int .i64 0, .int .i64 0] 27 ?_; intro gb230 hg w9 hbox hb; have BK230 := Aside0.mk (hbox); have GW230 := zge HB hg; have GE230 := GW230; have NB228_230 := zl BK228 hg; have NB230_228 := zg BK228 hg; have NB229_230 := zl BK229 hg; have NB230_229 := zg BK229 hg; replace BK228 := zb BK228 hb; replace BK229 := zb BK229 hb; replace HB := zB HB hb; clear hb hbox hg; have hnb10 := NB228_229.out; have hnc10 := NB229_228.out; have hnb11 := NB228_230.out; have hnc11 := NB230_228.out; obtain ⟨hcz12_0, hcz12_1, hfz12_0, hfz12_1⟩ := zs2 BK228; have hnb13 := NB229_230.out; have hnc13 := NB230_229.out; obtain ⟨hcz14_0, hcz14_1, hfz14_0, hfz14_1⟩ := zs2 BK229) | ((with_reducible refine gate_callee (f := 72) rfl ?_); refine zL (some 7) Try.func72 #[.agg #[.int .i64 a0_0, .int .i64 a0_1], .agg #[.int .i64 a1_0, .int .i64 a1_1]] ?_; (with_reducible refine (spec_Meets.calls a0_0 a0_1 a1_0 a1_1 true _ A3.out).mono ?_); rintro e w15 ⟨rfl, hb⟩; refine ⟨_, rfl, ?_⟩; replace BK228 := zb BK228 hb; replace BK229 := zb BK229 hb; replace BK230 := zb BK230 hb; replace HB := zB HB hb; (try clear hb); obtain ⟨hcz16_0, hcz16_1, hfz16_0, hfz16_1⟩ := zs2 BK229; obtain ⟨hcz17_0, hcz17_1, hfz17_0, hfz17_1⟩ := zs2 BK228; obtain ⟨hcz18_0, hcz18_1, hfz18_0, hfz18_1⟩ := zs2 BK230))
    refine bodyPost_ret (results_cell_row rfl _ _ gb230 27 #[.int .i64 a1_0, .int .i64 a1_1] (0, 0) _ rfl (by (with_reducible repeat (first | refine blk_drewN ?_ _ | refine blk_drew ?_ | refine blk_alloc ?_ _)); refine blk_put (cs := #[.int .i64 a1_0, .int .i64 0]) ?_ 1 _ rfl; (with_reducible repeat (first | refine blk_drewN ?_ _ | refine blk_drew ?_ | refine blk_alloc ?_ _)); refine blk_put (cs := #[.int .i64 0, .int .i64 0]) ?_ 0 _ rfl; (with_reducible repeat (first | refine blk_drewN ?_ _ | refine blk_drew ?_ | refine blk_alloc ?_ _)); refine blk_far ?_ NB230_228.out _; (with_reducible repeat (first | refine blk_drewN ?_ _ | refine blk_drew ?_ | refine blk_alloc ?_ _)); refine blk_far ?_ NB230_228.out _; (with_reducible repeat (first | refine blk_drewN ?_ _ | refine blk_drew ?_ | refine blk_alloc ?_ _)); exact BK230.out) Try.underlying27 rfl (by kernel_rfl)) rfl ?_
    exact ⟨by first | rfl | (simp [errW_none, errW_some] <;> rfl) | (simp [*, errW_none, errW_some] <;> rfl), by repeat (first | (with_reducible first | exact HB.out | apply below_alloc | apply pw_below_drewN | apply below_drew1 | refine below_set ?_ GE228.out | refine below_set ?_ GE229.out | refine below_set ?_ GE230.out) | exact HB.out)⟩
   ·rw [if_neg c6] at H
    have c6b0 : decide (a1_1 < a0_1) = false := decide_eq_false c6
    clear c6
    simp only [Option.some.injEq, Prod.mk.injEq] at H
    obtain ⟨rfl, rfl⟩ := H
    go_enter Try.func98, Try.ntmps98
    go_wp2_with (first | ((with_reducible refine gate_dst (N := 2) rfl ?_); refine zx 2 #[.int .i64 a0_0, .int .i64 a0_1] 27 ?_; intro gb228 hg w19 hbox hb; have BK228 := Aside0.mk (hbox); have GW228 := zge HB hg; have GE228 := GW228; replace HB := zB HB hb; clear hb hbox hg) | ((with_reducible refine gate_dst (N := 3) rfl ?_); refine zx 3 #[.int .i64 a1_0, .int .i64 a1_1] 27 ?_; intro gb229 hg w20 hbox hb; have BK229 := Aside0.mk (hbox); have GW229 := zge HB hg; have GE229 := GW229; have NB228_229 := zl BK228 hg; have NB229_228 := zg BK228 hg; replace BK228 := zb BK228 hb; replace HB := zB HB hb; clear hb hbox hg) | ((with_reducible refine gate_dst (N := 4) rfl ?_); refine zx 4 #[.int .i64 0, .int .i64 0] 27 ?_; intro gb230 hg w21 hbox hb; have BK230 := Aside0.mk (hbox); have GW230 := zge HB hg; have GE230 := GW230; have NB228_230 := zl BK228 hg; have NB230_228 := zg BK228 hg; have NB229_230 := zl BK229 hg; have NB230_229 := zg BK229 hg; replace BK228 := zb BK228 hb; replace BK229 := zb BK229 hb; replace HB := zB HB hb; clear hb hbox hg; have hnb22 := NB228_229.out; have hnc22 := NB229_228.out; have hnb23 := NB228_230.out; have hnc23 := NB230_228.out; obtain ⟨hcz24_0, hcz24_1, hfz24_0, hfz24_1⟩ := zs2 BK228; have hnb25 := NB229_230.out; have hnc25 := NB230_229.out; obtain ⟨hcz26_0, hcz26_1, hfz26_0, hfz26_1⟩ := zs2 BK229) | ((with_reducible refine gate_callee (f := 72) rfl ?_); refine zL (some 7) Try.func72 #[.agg #[.int .i64 a0_0, .int .i64 a0_1], .agg #[.int .i64 a1_0, .int .i64 a1_1]] ?_; (with_reducible refine (spec_Meets.calls a0_0 a0_1 a1_0 a1_1 true _ A3.out).mono ?_); rintro e w27 ⟨rfl, hb⟩; refine ⟨_, rfl, ?_⟩; replace BK228 := zb BK228 hb; replace BK229 := zb BK229 hb; replace BK230 := zb BK230 hb; replace HB := zB HB hb; (try clear hb); obtain ⟨hcz28_0, hcz28_1, hfz28_0, hfz28_1⟩ := zs2 BK229; obtain ⟨hcz29_0, hcz29_1, hfz29_0, hfz29_1⟩ := zs2 BK228; obtain ⟨hcz30_0, hcz30_1, hfz30_0, hfz30_1⟩ := zs2 BK230))
    refine bodyPost_ret (results_cell_row rfl _ _ gb230 27 #[.int .i64 a1_0, .int .i64 a0_1] (0, 0) _ rfl (by (with_reducible repeat (first | refine blk_drewN ?_ _ | refine blk_drew ?_ | refine blk_alloc ?_ _)); refine blk_put (cs := #[.int .i64 a1_0, .int .i64 0]) ?_ 1 _ rfl; (with_reducible repeat (first | refine blk_drewN ?_ _ | refine blk_drew ?_ | refine blk_alloc ?_ _)); refine blk_put (cs := #[.int .i64 0, .int .i64 0]) ?_ 0 _ rfl; (with_reducible repeat (first | refine blk_drewN ?_ _ | refine blk_drew ?_ | refine blk_alloc ?_ _)); refine blk_far ?_ NB230_228.out _; (with_reducible repeat (first | refine blk_drewN ?_ _ | refine blk_drew ?_ | refine blk_alloc ?_ _)); exact BK230.out) Try.underlying27 rfl (by kernel_rfl)) rfl ?_
    exact ⟨by first | rfl | (simp [errW_none, errW_some] <;> rfl) | (simp [*, errW_none, errW_some] <;> rfl), by repeat (first | (with_reducible first | exact HB.out | apply below_alloc | apply pw_below_drewN | apply below_drew1 | refine below_set ?_ GE228.out | refine below_set ?_ GE229.out | refine below_set ?_ GE230.out) | exact HB.out)⟩
  ·rw [if_neg c5] at H
   have c5b0 : decide (a0_0 < a1_0) = false := decide_eq_false c5
   clear c5
   by_cases c31 : a1_1 < a0_1
   ·rw [if_pos c31] at H
    have c31b0 : decide (a1_1 < a0_1) = true := decide_eq_true c31
    clear c31
    simp only [Option.some.injEq, Prod.mk.injEq] at H
    obtain ⟨rfl, rfl⟩ := H
    go_enter Try.func98, Try.ntmps98
    go_wp2_with (first | ((with_reducible refine gate_dst (N := 2) rfl ?_); refine zx 2 #[.int .i64 a0_0, .int .i64 a0_1] 27 ?_; intro gb228 hg w32 hbox hb; have BK228 := Aside0.mk (hbox); have GW228 := zge HB hg; have GE228 := GW228; replace HB := zB HB hb; clear hb hbox hg) | ((with_reducible refine gate_dst (N := 3) rfl ?_); refine zx 3 #[.int .i64 a1_0, .int .i64 a1_1] 27 ?_; intro gb229 hg w33 hbox hb; have BK229 := Aside0.mk (hbox); have GW229 := zge HB hg; have GE229 := GW229; have NB228_229 := zl BK228 hg; have NB229_228 := zg BK228 hg; replace BK228 := zb BK228 hb; replace HB := zB HB hb; clear hb hbox hg) | ((with_reducible refine gate_dst (N := 4) rfl ?_); refine zx 4 #[.int .i64 0, .int .i64 0] 27 ?_; intro gb230 hg w34 hbox hb; have BK230 := Aside0.mk (hbox); have GW230 := zge HB hg; have GE230 := GW230; have NB228_230 := zl BK228 hg; have NB230_228 := zg BK228 hg; have NB229_230 := zl BK229 hg; have NB230_229 := zg BK229 hg; replace BK228 := zb BK228 hb; replace BK229 := zb BK229 hb; replace HB := zB HB hb; clear hb hbox hg; have hnb35 := NB228_229.out; have hnc35 := NB229_228.out; have hnb36 := NB228_230.out; have hnc36 := NB230_228.out; obtain ⟨hcz37_0, hcz37_1, hfz37_0, hfz37_1⟩ := zs2 BK228; have hnb38 := NB229_230.out; have hnc38 := NB230_229.out; obtain ⟨hcz39_0, hcz39_1, hfz39_0, hfz39_1⟩ := zs2 BK229) | ((with_reducible refine gate_callee (f := 72) rfl ?_); refine zL (some 7) Try.func72 #[.agg #[.int .i64 a0_0, .int .i64 a0_1], .agg #[.int .i64 a1_0, .int .i64 a1_1]] ?_; (with_reducible refine (spec_Meets.calls a0_0 a0_1 a1_0 a1_1 true _ A3.out).mono ?_); rintro e w40 ⟨rfl, hb⟩; refine ⟨_, rfl, ?_⟩; replace BK228 := zb BK228 hb; replace BK229 := zb BK229 hb; replace BK230 := zb BK230 hb; replace HB := zB HB hb; (try clear hb); obtain ⟨hcz41_0, hcz41_1, hfz41_0, hfz41_1⟩ := zs2 BK229; obtain ⟨hcz42_0, hcz42_1, hfz42_0, hfz42_1⟩ := zs2 BK228; obtain ⟨hcz43_0, hcz43_1, hfz43_0, hfz43_1⟩ := zs2 BK230))
    refine bodyPost_ret (results_cell_row rfl _ _ gb230 27 #[.int .i64 a0_0, .int .i64 a1_1] (0, 0) _ rfl (by (with_reducible repeat (first | refine blk_drewN ?_ _ | refine blk_drew ?_ | refine blk_alloc ?_ _)); refine blk_put (cs := #[.int .i64 a0_0, .int .i64 0]) ?_ 1 _ rfl; (with_reducible repeat (first | refine blk_drewN ?_ _ | refine blk_drew ?_ | refine blk_alloc ?_ _)); refine blk_put (cs := #[.int .i64 0, .int .i64 0]) ?_ 0 _ rfl; (with_reducible repeat (first | refine blk_drewN ?_ _ | refine blk_drew ?_ | refine blk_alloc ?_ _)); refine blk_far ?_ NB230_228.out _; (with_reducible repeat (first | refine blk_drewN ?_ _ | refine blk_drew ?_ | refine blk_alloc ?_ _)); exact BK230.out) Try.underlying27 rfl (by kernel_rfl)) rfl ?_
    exact ⟨by first | rfl | (simp [errW_none, errW_some] <;> rfl) | (simp [*, errW_none, errW_some] <;> rfl), by repeat (first | (with_reducible first | exact HB.out | apply below_alloc | apply pw_below_drewN | apply below_drew1 | refine below_set ?_ GE228.out | refine below_set ?_ GE229.out | refine below_set ?_ GE230.out) | exact HB.out)⟩
   ·rw [if_neg c31] at H
    have c31b0 : decide (a1_1 < a0_1) = false := decide_eq_false c31
    clear c31
    simp only [Option.some.injEq, Prod.mk.injEq] at H
    obtain ⟨rfl, rfl⟩ := H
    go_enter Try.func98, Try.ntmps98
    go_wp2_with (first | ((with_reducible refine gate_dst (N := 2) rfl ?_); refine zx 2 #[.int .i64 a0_0, .int .i64 a0_1] 27 ?_; intro gb228 hg w44 hbox hb; have BK228 := Aside0.mk (hbox); have GW228 := zge HB hg; have GE228 := GW228; replace HB := zB HB hb; clear hb hbox hg) | ((with_reducible refine gate_dst (N := 3) rfl ?_); refine zx 3 #[.int .i64 a1_0, .int .i64 a1_1] 27 ?_; intro gb229 hg w45 hbox hb; have BK229 := Aside0.mk (hbox); have GW229 := zge HB hg; have GE229 := GW229; have NB228_229 := zl BK228 hg; have NB229_228 := zg BK228 hg; replace BK228 := zb BK228 hb; replace HB := zB HB hb; clear hb hbox hg) | ((with_reducible refine gate_dst (N := 4) rfl ?_); refine zx 4 #[.int .i64 0, .int .i64 0] 27 ?_; intro gb230 hg w46 hbox hb; have BK230 := Aside0.mk (hbox); have GW230 := zge HB hg; have GE230 := GW230; have NB228_230 := zl BK228 hg; have NB230_228 := zg BK228 hg; have NB229_230 := zl BK229 hg; have NB230_229 := zg BK229 hg; replace BK228 := zb BK228 hb; replace BK229 := zb BK229 hb; replace HB := zB HB hb; clear hb hbox hg; have hnb47 := NB228_229.out; have hnc47 := NB229_228.out; have hnb48 := NB228_230.out; have hnc48 := NB230_228.out; obtain ⟨hcz49_0, hcz49_1, hfz49_0, hfz49_1⟩ := zs2 BK228; have hnb50 := NB229_230.out; have hnc50 := NB230_229.out; obtain ⟨hcz51_0, hcz51_1, hfz51_0, hfz51_1⟩ := zs2 BK229) | ((with_reducible refine gate_callee (f := 72) rfl ?_); refine zL (some 7) Try.func72 #[.agg #[.int .i64 a0_0, .int .i64 a0_1], .agg #[.int .i64 a1_0, .int .i64 a1_1]] ?_; (with_reducible refine (spec_Meets.calls a0_0 a0_1 a1_0 a1_1 true _ A3.out).mono ?_); rintro e w52 ⟨rfl, hb⟩; refine ⟨_, rfl, ?_⟩; replace BK228 := zb BK228 hb; replace BK229 := zb BK229 hb; replace BK230 := zb BK230 hb; replace HB := zB HB hb; (try clear hb); obtain ⟨hcz53_0, hcz53_1, hfz53_0, hfz53_1⟩ := zs2 BK229; obtain ⟨hcz54_0, hcz54_1, hfz54_0, hfz54_1⟩ := zs2 BK228; obtain ⟨hcz55_0, hcz55_1, hfz55_0, hfz55_1⟩ := zs2 BK230))
    refine bodyPost_ret (results_cell_row rfl _ _ gb230 27 #[.int .i64 a0_0, .int .i64 a0_1] (0, 0) _ rfl (by (with_reducible repeat (first | refine blk_drewN ?_ _ | refine blk_drew ?_ | refine blk_alloc ?_ _)); refine blk_put (cs := #[.int .i64 a0_0, .int .i64 0]) ?_ 1 _ rfl; (with_reducible repeat (first | refine blk_drewN ?_ _ | refine blk_drew ?_ | refine blk_alloc ?_ _)); refine blk_put (cs := #[.int .i64 0, .int .i64 0]) ?_ 0 _ rfl; (with_reducible repeat (first | refine blk_drewN ?_ _ | refine blk_drew ?_ | refine blk_alloc ?_ _)); exact BK230.out) Try.underlying27 rfl (by kernel_rfl)) rfl ?_
    exact ⟨by first | rfl | (simp [errW_none, errW_some] <;> rfl) | (simp [*, errW_none, errW_some] <;> rfl), by repeat (first | (with_reducible first | exact HB.out | apply below_alloc | apply pw_below_drewN | apply below_drew1 | refine below_set ?_ GE228.out | refine below_set ?_ GE229.out | refine below_set ?_ GE230.out) | exact HB.out)⟩
 ·replace c4 := Bool.eq_false_iff.mpr c4
  subst c4
  have H1 : (some (0, 0)) = some (r1, r2) := by rw [if_neg (show ¬ (false = true) by decide)] at H; exact H
  clear H
  have H := H1
  clear H1
  simp only [Option.some.injEq, Prod.mk.injEq] at H
  obtain ⟨rfl, rfl⟩ := H
  go_enter Try.func98, Try.ntmps98
  go_wp2_with (first | ((with_reducible refine gate_dst (N := 2) rfl ?_); refine zx 2 #[.int .i64 a0_0, .int .i64 a0_1] 27 ?_; intro gb228 hg w56 hbox hb; have BK228 := Aside0.mk (hbox); have GW228 := zge HB hg; have GE228 := GW228; replace HB := zB HB hb; clear hb hbox hg) | ((with_reducible refine gate_dst (N := 3) rfl ?_); refine zx 3 #[.int .i64 a1_0, .int .i64 a1_1] 27 ?_; intro gb229 hg w57 hbox hb; have BK229 := Aside0.mk (hbox); have GW229 := zge HB hg; have GE229 := GW229; have NB228_229 := zl BK228 hg; have NB229_228 := zg BK228 hg; replace BK228 := zb BK228 hb; replace HB := zB HB hb; clear hb hbox hg) | ((with_reducible refine gate_dst (N := 4) rfl ?_); refine zx 4 #[.int .i64 0, .int .i64 0] 27 ?_; intro gb230 hg w58 hbox hb; have BK230 := Aside0.mk (hbox); have GW230 := zge HB hg; have GE230 := GW230; have NB228_230 := zl BK228 hg; have NB230_228 := zg BK228 hg; have NB229_230 := zl BK229 hg; have NB230_229 := zg BK229 hg; replace BK228 := zb BK228 hb; replace BK229 := zb BK229 hb; replace HB := zB HB hb; clear hb hbox hg; have hnb59 := NB228_229.out; have hnc59 := NB229_228.out; have hnb60 := NB228_230.out; have hnc60 := NB230_228.out; obtain ⟨hcz61_0, hcz61_1, hfz61_0, hfz61_1⟩ := zs2 BK228; have hnb62 := NB229_230.out; have hnc62 := NB230_229.out; obtain ⟨hcz63_0, hcz63_1, hfz63_0, hfz63_1⟩ := zs2 BK229) | ((with_reducible refine gate_callee (f := 72) rfl ?_); refine zL (some 7) Try.func72 #[.agg #[.int .i64 a0_0, .int .i64 a0_1], .agg #[.int .i64 a1_0, .int .i64 a1_1]] ?_; (with_reducible refine (spec_Meets.calls a0_0 a0_1 a1_0 a1_1 false _ A3.out).mono ?_); rintro e w64 ⟨rfl, hb⟩; refine ⟨_, rfl, ?_⟩; replace BK228 := zb BK228 hb; replace BK229 := zb BK229 hb; replace BK230 := zb BK230 hb; replace HB := zB HB hb; (try clear hb); obtain ⟨hcz65_0, hcz65_1, hfz65_0, hfz65_1⟩ := zs2 BK230))
  refine bodyPost_ret (results_cell_row rfl _ _ gb230 27 #[.int .i64 0, .int .i64 0] (0, 0) _ rfl (by (with_reducible repeat (first | refine blk_drewN ?_ _ | refine blk_drew ?_ | refine blk_alloc ?_ _)); refine blk_put (cs := #[.int .i64 0, .int .i64 0]) ?_ 1 _ rfl; (with_reducible repeat (first | refine blk_drewN ?_ _ | refine blk_drew ?_ | refine blk_alloc ?_ _)); refine blk_put (cs := #[.int .i64 0, .int .i64 0]) ?_ 0 _ rfl; (with_reducible repeat (first | refine blk_drewN ?_ _ | refine blk_drew ?_ | refine blk_alloc ?_ _)); exact BK230.out) Try.underlying27 rfl (by kernel_rfl)) rfl ?_
  exact ⟨by first | rfl | (simp [errW_none, errW_some] <;> rfl) | (simp [*, errW_none, errW_some] <;> rfl), by repeat (first | (with_reducible first | exact HB.out | apply below_alloc | apply pw_below_drewN | apply below_drew1 | refine below_set ?_ GE228.out | refine below_set ?_ GE229.out | refine below_set ?_ GE230.out) | exact HB.out)⟩

end Go.Proofs.Ytommdabkkgcgbaa.QFnExactDo
