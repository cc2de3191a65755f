-- Written by a program of this session (wip/tools/turnprint.py over the kit's print), for this claim: functions as plain Lean and their contracts.
import Derived.Test.YtommdabkkgcgbaaQFnReadx0
import Derived.Test.YtommdabkkgcgbaaQFnReadx7
import Derived.Test.YtommdabkkgcgbaaQFnReadx8
namespace Go.Proofs.Ytommdabkkgcgbaa.QFnRead
open Go.RowKit Go.Proofs.YtommdabkkgcgbaaW.PrintWords Go.Proofs.YtommdabkkgcgbaaW.PrintLast Go.Proofs.YtommdabkkgcgbaaW.PrintMore
attribute [local go_sem] max2_int min2_int max_two min_two max_three min_three max_four min_four   -- for this text's walks alone
set_option linter.unusedVariables false
set_option linter.unusedSimpArgs false

/-! ### spec_l1most: function 84 -/
def spec_l1most.l0 : Nat → Int → Int → Int → Int → Int → Int → Int → Int → Option (Int)
 | 0, _, _, _, _, _, _, _, _ => none
 | k + 1, x1, x5, x6, x285000, x285001, x285002, x285003, x285004 => (spec_l1fair.f x285000 x285001 x285002 x285003 x285004 x6 x1).bind fun t285 => (if t285 = true then (spec_l1most.l0 k x1 x6 (wrap64 (x6 + 1)) x285000 x285001 x285002 x285003 x285004) else (some x5))
def spec_l1most.f (k : Nat) (a0_0 : Int) (a0_1 : Int) (a0_2 : Int) (a0_3 : Int) (a0_4 : Int) (a1 : Int) : Option (Int) := spec_l1most.l0 k a1 a1 a1 a0_0 a0_1 a0_2 a0_3 a0_4
theorem spec_l1most.mono_l : ∀ k, (∀ y0 y1 y2 y3 y4 y5 y6 y7, LeO (spec_l1most.l0 k y0 y1 y2 y3 y4 y5 y6 y7) (spec_l1most.l0 (k + 1) y0 y1 y2 y3 y4 y5 y6 y7))
 | 0 => fun _ _ _ _ _ _ _ _ r h => by simp [spec_l1most.l0] at h
 | k + 1 => by
  have ih0 := spec_l1most.mono_l k
  ·intro y0 y1 y2 y3 y4 y5 y6 y7
   unfold spec_l1most.l0
   repeat' first
   | (with_reducible exact ih0 _ _ _ _ _ _ _ _)
   | (with_reducible exact LeO.refl _)
   | (with_reducible exact LeO.none _)
   | (with_reducible refine LeO.ite ?_ ?_)
   | (with_reducible refine LeO.bind ?_ (fun _ => ?_))
   | exact ih0 _ _ _ _ _ _ _ _
   | exact LeO.none _
   | refine LeO.ite ?_ ?_
   | refine LeO.bind ?_ (fun _ => ?_)
theorem spec_l1most.mono : ∀ a0 a1 a2 a3 a4 a5 k, LeO (spec_l1most.f k a0 a1 a2 a3 a4 a5) (spec_l1most.f (k + 1) a0 a1 a2 a3 a4 a5) := by
 intro a0 a1 a2 a3 a4 a5 k
 have ih0 := spec_l1most.mono_l k
 unfold spec_l1most.f
 repeat' first
   | (with_reducible exact ih0 _ _ _ _ _ _ _ _)
   | (with_reducible exact LeO.refl _)
   | (with_reducible exact LeO.none _)
   | (with_reducible refine LeO.ite ?_ ?_)
   | (with_reducible refine LeO.bind ?_ (fun _ => ?_))
   | exact ih0 _ _ _ _ _ _ _ _
   | exact LeO.none _
   | refine LeO.ite ?_ ?_
   | refine LeO.bind ?_ (fun _ => ?_)
set_option maxHeartbeats 8000000 in
set_option maxRecDepth 100000 in
theorem spec_l1most.calls (k : Nat) (a0_0 : Int) (a0_1 : Int) (a0_2 : Int) (a0_3 : Int) (a0_4 : Int) (a1 : Int) (r : Int) (w : World) (h : spec_l1most.f k a0_0 a0_1 a0_2 a0_3 a0_4 a1 = some r) :
  Calls Try.prog 84 #[.agg #[.int .i64 a0_0, .int .i64 a0_1, .int .i64 a0_2, .int .i64 a0_3, .int .i64 a0_4], .int .i64 a1] w fun e w' => e = .returned (.int .i64 r) ∧ Below w.heap.size w w' := by
 have hu24 := Try.underlying24
 have HB := Aside0.mk (Below.refl w.heap.size w)
 have H : (spec_l1most.l0 k a1 a1 a1 a0_0 a0_1 a0_2 a0_3 a0_4) = some r := h
 clear h
 have H' := Aside0.mk H
 clear H
 go_enter Try.func84, Try.ntmps84
 go_wp2_with (first | ((with_reducible refine gate_dst (N := 2) rfl ?_); refine zx 2 #[.int .i64 a0_0, .int .i64 a0_1, .int .i64 a0_2, .int .i64 a0_3, .int .i64 a0_4] 24 ?_; intro gb284 hg w3 hbox hb; have BK284 := Aside0.mk (hbox); have GW284 := zge HB hg; have GE284 := GW284; replace HB := zB HB hb; clear hb hbox hg))
 go_loopg [5, 6] k (fun kq v5 v6 w' => ∃ (x5_1 : Int) (x6_1 : Int), v5 = .int .i64 x5_1 ∧ v6 = .int .i64 x6_1 ∧ Aside0 (spec_l1most.l0 kq a1 x5_1 x6_1 a0_0 a0_1 a0_2 a0_3 a0_4 = some r) ∧ Aside0 (kq ≤ k) ∧ Aside0 (w'.heap[gb284]? = some (.cells #[.int .i64 a0_0, .int .i64 a0_1, .int .i64 a0_2, .int .i64 a0_3, .int .i64 a0_4] 24 (0, 0))) ∧ Aside0 (Below w.heap.size w w'))
 case atStart => exact ⟨(a1), (a1), ze, ze, H', ⟨Nat.le_refl _⟩, ⟨zy BK284⟩, ⟨by repeat (first | (with_reducible first | exact HB.out | apply below_alloc | apply pw_below_drewN | apply below_drew1 | refine below_set ?_ GE284.out) | exact HB.out)⟩⟩
 case round =>
  clear H'
  (try clear p2)
  obtain ⟨x5_1, x6_1, rfl, rfl, HA, HK1, BK284, HB⟩ := hrel
  cases gk with
  | zero => exact absurd HA.out (by simp [spec_l1most.l0])
  | succ k1 =>
   have H := HA.out
   clear HA
   simp only [spec_l1most.l0] at H
   replace H := Option.bind_eq_some_iff.mp H
   obtain ⟨t285, A40, H⟩ := H
   replace H : (if t285 = true then (spec_l1most.l0 k1 a1 x6_1 (wrap64 (x6_1 + 1)) a0_0 a0_1 a0_2 a0_3 a0_4) else (some x5_1)) = some r := H
   have A4 := Aside0.mk A40
   clear A40
   by_cases c5 : t285 = true
   ·subst c5
    have H1 : (spec_l1most.l0 k1 a1 x6_1 (wrap64 (x6_1 + 1)) a0_0 a0_1 a0_2 a0_3 a0_4) = some r := by rw [if_pos rfl] at H; exact H
    clear H
    have H := H1
    clear H1
    have H' := Aside0.mk H
    clear H
    obtain ⟨hcz6_0, hcz6_1, hcz6_2, hcz6_3, hcz6_4, hfz6_0, hfz6_1, hfz6_2, hfz6_3, hfz6_4⟩ := zs5 BK284
    go_wp2_with (first | ((with_reducible refine gate_callee (f := 99) rfl ?_); refine zL (some 12) Try.func99 #[.agg #[.int .i64 a0_0, .int .i64 a0_1, .int .i64 a0_2, .int .i64 a0_3, .int .i64 a0_4], .int .i64 x6_1, .int .i64 a1] ?_; (with_reducible refine (spec_l1fair.calls a0_0 a0_1 a0_2 a0_3 a0_4 x6_1 a1 true _ A4.out).mono ?_); rintro e w7 ⟨rfl, hb⟩; refine ⟨_, rfl, ?_⟩; replace BK284 := zb BK284 hb; replace HB := zB HB hb; (try clear hb)))
    go_roundg k1
    case measure => have := HK1.out; omega
    case rel => exact ⟨(x6_1), (wrap64 (x6_1 + 1)), ze, ze, H', ⟨by have := HK1.out; omega⟩, ⟨zy BK284⟩, ⟨by repeat (first | (with_reducible first | exact HB.out | apply below_alloc | apply pw_below_drewN | apply below_drew1 | refine below_set ?_ GE284.out) | exact HB.out)⟩⟩
   ·replace c5 := Bool.eq_false_iff.mpr c5
    subst c5
    have H1 : (some x5_1) = some r := by rw [if_neg (show ¬ (false = true) by decide)] at H; exact H
    clear H
    have H := H1
    clear H1
    obtain rfl := Option.some.inj H
    obtain ⟨hcz8_0, hcz8_1, hcz8_2, hcz8_3, hcz8_4, hfz8_0, hfz8_1, hfz8_2, hfz8_3, hfz8_4⟩ := zs5 BK284
    go_wp2_with (first | ((with_reducible refine gate_callee (f := 99) rfl ?_); refine zL (some 12) Try.func99 #[.agg #[.int .i64 a0_0, .int .i64 a0_1, .int .i64 a0_2, .int .i64 a0_3, .int .i64 a0_4], .int .i64 x6_1, .int .i64 a1] ?_; (with_reducible refine (spec_l1fair.calls a0_0 a0_1 a0_2 a0_3 a0_4 x6_1 a1 false _ A4.out).mono ?_); rintro e w9 ⟨rfl, hb⟩; refine ⟨_, rfl, ?_⟩; replace BK284 := zb BK284 hb; replace HB := zB HB hb; (try clear hb)))
    go_ret
    exact ⟨by first | rfl | (simp [errW_none, errW_some] <;> rfl) | (simp [*, errW_none, errW_some] <;> rfl), by repeat (first | (with_reducible first | exact HB.out | apply below_alloc | apply pw_below_drewN | apply below_drew1 | refine below_set ?_ GE284.out) | exact HB.out)⟩

/-! ### spec_l1least: function 85 -/
def spec_l1least.l0 : Nat → Int → Int → Int → Int → Int → Int → Int → Int → Option (Int)
 | 0, _, _, _, _, _, _, _, _ => none
 | k + 1, x1, x5, x6, x287000, x287001, x287002, x287003, x287004 => if x6 ≥ 0 then ((spec_l1fair.f x287000 x287001 x287002 x287003 x287004 x6 x1).bind fun t287 => (if t287 = true then (spec_l1least.l0 k x1 x6 (wrap64 (x6 - 1)) x287000 x287001 x287002 x287003 x287004) else (some x5))) else (some x5)
def spec_l1least.f (k : Nat) (a0_0 : Int) (a0_1 : Int) (a0_2 : Int) (a0_3 : Int) (a0_4 : Int) (a1 : Int) : Option (Int) := spec_l1least.l0 k a1 a1 a1 a0_0 a0_1 a0_2 a0_3 a0_4
theorem spec_l1least.mono_l : ∀ k, (∀ y0 y1 y2 y3 y4 y5 y6 y7, LeO (spec_l1least.l0 k y0 y1 y2 y3 y4 y5 y6 y7) (spec_l1least.l0 (k + 1) y0 y1 y2 y3 y4 y5 y6 y7))
 | 0 => fun _ _ _ _ _ _ _ _ r h => by simp [spec_l1least.l0] at h
 | k + 1 => by
  have ih0 := spec_l1least.mono_l k
  ·intro y0 y1 y2 y3 y4 y5 y6 y7
   unfold spec_l1least.l0
   repeat' first
   | (with_reducible exact ih0 _ _ _ _ _ _ _ _)
   | (with_reducible exact LeO.refl _)
   | (with_reducible exact LeO.none _)
   | (with_reducible refine LeO.ite ?_ ?_)
   | (with_reducible refine LeO.bind ?_ (fun _ => ?_))
   | exact ih0 _ _ _ _ _ _ _ _
   | exact LeO.none _
   | refine LeO.ite ?_ ?_
   | refine LeO.bind ?_ (fun _ => ?_)
theorem spec_l1least.mono : ∀ a0 a1 a2 a3 a4 a5 k, LeO (spec_l1least.f k a0 a1 a2 a3 a4 a5) (spec_l1least.f (k + 1) a0 a1 a2 a3 a4 a5) := by
 intro a0 a1 a2 a3 a4 a5 k
 have ih0 := spec_l1least.mono_l k
 unfold spec_l1least.f
 repeat' first
   | (with_reducible exact ih0 _ _ _ _ _ _ _ _)
   | (with_reducible exact LeO.refl _)
   | (with_reducible exact LeO.none _)
   | (with_reducible refine LeO.ite ?_ ?_)
   | (with_reducible refine LeO.bind ?_ (fun _ => ?_))
   | exact ih0 _ _ _ _ _ _ _ _
   | exact LeO.none _
   | refine LeO.ite ?_ ?_
   | refine LeO.bind ?_ (fun _ => ?_)
set_option maxHeartbeats 8000000 in
set_option maxRecDepth 100000 in
theorem spec_l1least.calls (k : Nat) (a0_0 : Int) (a0_1 : Int) (a0_2 : Int) (a0_3 : Int) (a0_4 : Int) (a1 : Int) (r : Int) (w : World) (h : spec_l1least.f k a0_0 a0_1 a0_2 a0_3 a0_4 a1 = some r) :
  Calls Try.prog 85 #[.agg #[.int .i64 a0_0, .int .i64 a0_1, .int .i64 a0_2, .int .i64 a0_3, .int .i64 a0_4], .int .i64 a1] w fun e w' => e = .returned (.int .i64 r) ∧ Below w.heap.size w w' := by
 have hu24 := Try.underlying24
 have HB := Aside0.mk (Below.refl w.heap.size w)
 have H : (spec_l1least.l0 k a1 a1 a1 a0_0 a0_1 a0_2 a0_3 a0_4) = some r := h
 clear h
 have H' := Aside0.mk H
 clear H
 go_enter Try.func85, Try.ntmps85
 go_wp2_with (first | ((with_reducible refine gate_dst (N := 2) rfl ?_); refine zx 2 #[.int .i64 a0_0, .int .i64 a0_1, .int .i64 a0_2, .int .i64 a0_3, .int .i64 a0_4] 24 ?_; intro gb286 hg w3 hbox hb; have BK286 := Aside0.mk (hbox); have GW286 := zge HB hg; have GE286 := GW286; replace HB := zB HB hb; clear hb hbox hg))
 go_loopg [5, 6] k (fun kq v5 v6 w' => ∃ (x5_1 : Int) (x6_1 : Int), v5 = .int .i64 x5_1 ∧ v6 = .int .i64 x6_1 ∧ Aside0 (spec_l1least.l0 kq a1 x5_1 x6_1 a0_0 a0_1 a0_2 a0_3 a0_4 = some r) ∧ Aside0 (kq ≤ k) ∧ Aside0 (w'.heap[gb286]? = some (.cells #[.int .i64 a0_0, .int .i64 a0_1, .int .i64 a0_2, .int .i64 a0_3, .int .i64 a0_4] 24 (0, 0))) ∧ Aside0 (Below w.heap.size w w'))
 case atStart => exact ⟨(a1), (a1), ze, ze, H', ⟨Nat.le_refl _⟩, ⟨zy BK286⟩, ⟨by repeat (first | (with_reducible first | exact HB.out | apply below_alloc | apply pw_below_drewN | apply below_drew1 | refine below_set ?_ GE286.out) | exact HB.out)⟩⟩
 case round =>
  clear H'
  (try clear p2)
  obtain ⟨x5_1, x6_1, rfl, rfl, HA, HK1, BK286, HB⟩ := hrel
  cases gk with
  | zero => exact absurd HA.out (by simp [spec_l1least.l0])
  | succ k1 =>
   have H := HA.out
   clear HA
   simp only [spec_l1least.l0] at H
   by_cases c4 : x6_1 ≥ 0
   ·rw [if_pos c4] at H
    have c4b0 : decide (0 ≤ x6_1) = true := decide_eq_true c4
    clear c4
    replace H := Option.bind_eq_some_iff.mp H
    obtain ⟨t287, A50, H⟩ := H
    replace H : (if t287 = true then (spec_l1least.l0 k1 a1 x6_1 (wrap64 (x6_1 - 1)) a0_0 a0_1 a0_2 a0_3 a0_4) else (some x5_1)) = some r := H
    have A5 := Aside0.mk A50
    clear A50
    by_cases c6 : t287 = true
    ·subst c6
     have H1 : (spec_l1least.l0 k1 a1 x6_1 (wrap64 (x6_1 - 1)) a0_0 a0_1 a0_2 a0_3 a0_4) = some r := by rw [if_pos rfl] at H; exact H
     clear H
     have H := H1
     clear H1
     have H' := Aside0.mk H
     clear H
     obtain ⟨hcz7_0, hcz7_1, hcz7_2, hcz7_3, hcz7_4, hfz7_0, hfz7_1, hfz7_2, hfz7_3, hfz7_4⟩ := zs5 BK286
     go_wp2_with (first | (go_at_call 99; (with_reducible refine (spec_l1fair.calls a0_0 a0_1 a0_2 a0_3 a0_4 x6_1 a1 true _ A5.out).mono ?_); rintro e w8 ⟨rfl, hb⟩; replace BK286 := zb BK286 hb; replace HB := zB HB hb; (try clear hb)))
     go_roundg k1
     case measure => have := HK1.out; omega
     case rel => exact ⟨(x6_1), (wrap64 (x6_1 - 1)), ze, ze, H', ⟨by have := HK1.out; omega⟩, ⟨zy BK286⟩, ⟨by repeat (first | (with_reducible first | exact HB.out | apply below_alloc | apply pw_below_drewN | apply below_drew1 | refine below_set ?_ GE286.out) | exact HB.out)⟩⟩
    ·replace c6 := Bool.eq_false_iff.mpr c6
     subst c6
     have H1 : (some x5_1) = some r := by rw [if_neg (show ¬ (false = true) by decide)] at H; exact H
     clear H
     have H := H1
     clear H1
     obtain rfl := Option.some.inj H
     obtain ⟨hcz9_0, hcz9_1, hcz9_2, hcz9_3, hcz9_4, hfz9_0, hfz9_1, hfz9_2, hfz9_3, hfz9_4⟩ := zs5 BK286
     go_wp2_with (first | (go_at_call 99; (with_reducible refine (spec_l1fair.calls a0_0 a0_1 a0_2 a0_3 a0_4 x6_1 a1 false _ A5.out).mono ?_); rintro e w10 ⟨rfl, hb⟩; replace BK286 := zb BK286 hb; replace HB := zB HB hb; (try clear hb)))
     go_ret
     exact ⟨by first | rfl | (simp [errW_none, errW_some] <;> rfl) | (simp [*, errW_none, errW_some] <;> rfl), by repeat (first | (with_reducible first | exact HB.out | apply below_alloc | apply pw_below_drewN | apply below_drew1 | refine below_set ?_ GE286.out) | exact HB.out)⟩
   ·rw [if_neg c4] at H
    have c4b0 : decide (0 ≤ x6_1) = false := decide_eq_false c4
    clear c4
    obtain rfl := Option.some.inj H
    go_wp2
    go_ret
    exact ⟨by first | rfl | (simp [errW_none, errW_some] <;> rfl) | (simp [*, errW_none, errW_some] <;> rfl), by repeat (first | (with_reducible first | exact HB.out | apply below_alloc | apply pw_below_drewN | apply below_drew1 | refine below_set ?_ GE286.out) | exact HB.out)⟩

/-! ### spec_Wheel: function 70 -/
def spec_Wheel.j0 : Nat → Int → Bool → Int → Int → Int → Int → Int → Int → Int → Option (Int × Int)
 | 0, _, _, _, _, _, _, _, _, _ => none
 | k + 1, x2, x15, x289000, x289001, x289002, x289003, x289004, x290000, x290001 => if x15 = true then (some (0, 0)) else ((spec_l1least.f k x289000 x289001 x289002 x289003 x289004 x2).bind fun t293 => ((spec_l1most.f k x289000 x289001 x289002 x289003 x289004 x2).bind fun t294 => ((spec_l1clip.f k (wrap64 (x290000 + t293)) (wrap64 (x290001 + t294))).bind fun bt295 => (some (bt295.1, bt295.2)))))
def spec_Wheel.f (k : Nat) (a0_0 : Int) (a0_1 : Int) (a0_2 : Int) (a0_3 : Int) (a0_4 : Int) (a1_0 : Int) (a1_1 : Int) (a2 : Int) : Option (Int × Int) := (spec_l1good.f a0_0 a0_1 a0_2 a0_3 a0_4 a1_0 a1_1).bind fun t291 => (if t291 = true then ((spec_l1in.f a2 0 100000).bind fun t292 => (spec_Wheel.j0 k a2 (!t292) a0_0 a0_1 a0_2 a0_3 a0_4 a1_0 a1_1)) else (spec_Wheel.j0 k a2 true a0_0 a0_1 a0_2 a0_3 a0_4 a1_0 a1_1))
theorem spec_Wheel.mono_l : ∀ k, (∀ y0 y1 y2 y3 y4 y5 y6 y7 y8, LeO (spec_Wheel.j0 k y0 y1 y2 y3 y4 y5 y6 y7 y8) (spec_Wheel.j0 (k + 1) y0 y1 y2 y3 y4 y5 y6 y7 y8))
 | 0 => fun _ _ _ _ _ _ _ _ _ r h => by simp [spec_Wheel.j0] at h
 | k + 1 => by
  have ih0 := spec_Wheel.mono_l k
  ·intro y0 y1 y2 y3 y4 y5 y6 y7 y8
   unfold spec_Wheel.j0
   repeat' first
   | (with_reducible exact ih0 _ _ _ _ _ _ _ _ _)
   | (with_reducible exact spec_l1clip.mono _ _ _)
   | (with_reducible exact spec_l1least.mono _ _ _ _ _ _ _)
   | (with_reducible exact spec_l1most.mono _ _ _ _ _ _ _)
   | (with_reducible exact LeO.refl _)
   | (with_reducible exact LeO.none _)
   | (with_reducible refine LeO.ite ?_ ?_)
   | (with_reducible refine LeO.bind ?_ (fun _ => ?_))
   | exact ih0 _ _ _ _ _ _ _ _ _
   | exact spec_l1clip.mono _ _ _
   | exact spec_l1least.mono _ _ _ _ _ _ _
   | exact spec_l1most.mono _ _ _ _ _ _ _
   | exact LeO.none _
   | refine LeO.ite ?_ ?_
   | refine LeO.bind ?_ (fun _ => ?_)
theorem spec_Wheel.mono : ∀ a0 a1 a2 a3 a4 a5 a6 a7 k, LeO (spec_Wheel.f k a0 a1 a2 a3 a4 a5 a6 a7) (spec_Wheel.f (k + 1) a0 a1 a2 a3 a4 a5 a6 a7) := by
 intro a0 a1 a2 a3 a4 a5 a6 a7 k
 have ih0 := spec_Wheel.mono_l k
 unfold spec_Wheel.f
 repeat' first
   | (with_reducible exact ih0 _ _ _ _ _ _ _ _ _)
   | (with_reducible exact spec_l1clip.mono _ _ _)
   | (with_reducible exact spec_l1least.mono _ _ _ _ _ _ _)
   | (with_reducible exact spec_l1most.mono _ _ _ _ _ _ _)
   | (with_reducible exact LeO.refl _)
   | (with_reducible exact LeO.none _)
   | (with_reducible refine LeO.ite ?_ ?_)
   | (with_reducible refine LeO.bind ?_ (fun _ => ?_))
   | exact ih0 _ _ _ _ _ _ _ _ _
   | exact spec_l1clip.mono _ _ _
   | exact spec_l1least.mono _ _ _ _ _ _ _
   | exact spec_l1most.mono _ _ _ _ _ _ _
   | exact LeO.none _
   | refine LeO.ite ?_ ?_
   | refine LeO.bind ?_ (fun _ => ?_)
def spec_Wheel.T3 : Bool × List (List Nat × List Nat) := (true, [([], []), ([0], [0]), ([], []), ([], []), ([2, 3], [2, 3]), ([1, 4], [1, 4]), ([], []), ([6], [6]), ([], []), ([], []), ([8, 9, 4], [8, 9]), ([7, 10], [7, 10]), ([5, 11], [5, 11]), ([12, 10], [12]), ([13, 13, 0, 1, 2, 3, 4, 5, 6, 7, 8, 9, 10, 11, 12, 13], [13])])
def spec_Wheel.B3 : List Nat := [0, 1, 0, 0, 12, 31, 0, 64, 0, 0, 796, 2012, 4095, 8191, 16383]
theorem spec_Wheel.tab3 : rtab .any (opsOf Try.f70 3) = spec_Wheel.T3 := by kernel_rfl
theorem spec_Wheel.bits3 : waitsOk spec_Wheel.T3.2 spec_Wheel.B3 = true := by kernel_rfl
set_option maxHeartbeats 8000000 in
set_option maxRecDepth 100000 in
theorem spec_Wheel.calls (k : Nat) (a0_0 : Int) (a0_1 : Int) (a0_2 : Int) (a0_3 : Int) (a0_4 : Int) (a1_0 : Int) (a1_1 : Int) (a2 : Int) (r1 : Int) (r2 : Int) (w : World) (h : spec_Wheel.f k a0_0 a0_1 a0_2 a0_3 a0_4 a1_0 a1_1 a2 = some (r1, r2)) :
  Calls Try.prog 70 #[.agg #[.int .i64 a0_0, .int .i64 a0_1, .int .i64 a0_2, .int .i64 a0_3, .int .i64 a0_4], .agg #[.int .i64 a1_0, .int .i64 a1_1], .int .i64 a2] w fun e w' => e = .returned (.agg #[.int .i64 r1, .int .i64 r2]) ∧ Below w.heap.size w w' := by
 have hu24 := Try.underlying24
 have hu27 := Try.underlying27
 have HB := Aside0.mk (Below.refl w.heap.size w)
 have H : ((spec_l1good.f a0_0 a0_1 a0_2 a0_3 a0_4 a1_0 a1_1).bind fun t291 => (if t291 = true then ((spec_l1in.f a2 0 100000).bind fun t292 => (spec_Wheel.j0 k a2 (!t292) a0_0 a0_1 a0_2 a0_3 a0_4 a1_0 a1_1)) else (spec_Wheel.j0 k a2 true a0_0 a0_1 a0_2 a0_3 a0_4 a1_0 a1_1))) = some (r1, r2) := h
 clear h
 have HC4 := Aside0.mk H
 clear H
 go_enter Try.func70, Try.ntmps70
 go_upto_region 1 with (first | ((with_reducible refine gate_dst (N := 3) rfl ?_); refine zx 3 #[.int .i64 a0_0, .int .i64 a0_1, .int .i64 a0_2, .int .i64 a0_3, .int .i64 a0_4] 24 ?_; intro gb288 hg w5 hbox hb; have BK288 := Aside0.mk (hbox); have GW288 := zge HB hg; have GE288 := GW288; replace HB := zB HB hb; clear hb hbox hg) | ((with_reducible refine gate_dst (N := 4) rfl ?_); refine zx 4 #[.int .i64 a1_0, .int .i64 a1_1] 27 ?_; intro gb289 hg w6 hbox hb; have BK289 := Aside0.mk (hbox); have GW289 := zge HB hg; have GE289 := GW289; have NB288_289 := zl BK288 hg; have NB289_288 := zg BK288 hg; replace BK288 := zb BK288 hb; replace HB := zB HB hb; clear hb hbox hg) | ((with_reducible refine gate_dst (N := 6) rfl ?_); refine zx 6 #[.int .i64 0, .int .i64 0] 27 ?_; intro gb290 hg w7 hbox hb; have BK290 := Aside0.mk (hbox); have GW290 := zge HB hg; have GE290 := GW290; have NB288_290 := zl BK288 hg; have NB290_288 := zg BK288 hg; have NB289_290 := zl BK289 hg; have NB290_289 := zg BK289 hg; replace BK288 := zb BK288 hb; replace BK289 := zb BK289 hb; replace HB := zB HB hb; clear hb hbox hg))
 (try simp only [Act.put, List.setIfInBounds_toArray, List.set_cons_zero, List.set_cons_succ])
 go_cut [15] (fun v15 wc => ∃ (kq : Nat) (x15_3 : Bool), v15 = .bool x15_3 ∧ Aside0 (spec_Wheel.j0 kq a2 x15_3 a0_0 a0_1 a0_2 a0_3 a0_4 a1_0 a1_1 = some (r1, r2)) ∧ Aside0 (kq ≤ k) ∧ Aside0 (wc.heap[gb288]? = some (.cells #[.int .i64 a0_0, .int .i64 a0_1, .int .i64 a0_2, .int .i64 a0_3, .int .i64 a0_4] 24 (0, 0))) ∧ Aside0 (wc.heap[gb289]? = some (.cells #[.int .i64 a1_0, .int .i64 a1_1] 27 (0, 0))) ∧ Aside0 (wc.heap[gb290]? = some (.cells #[.int .i64 0, .int .i64 0] 27 (0, 0))) ∧ Aside0 (Below w.heap.size w wc))
 case first =>
  have H := HC4.out
  clear HC4
  replace H := Option.bind_eq_some_iff.mp H
  obtain ⟨t291, A80, H⟩ := H
  replace H : (if t291 = true then ((spec_l1in.f a2 0 100000).bind fun t292 => (spec_Wheel.j0 k a2 (!t292) a0_0 a0_1 a0_2 a0_3 a0_4 a1_0 a1_1)) else (spec_Wheel.j0 k a2 true a0_0 a0_1 a0_2 a0_3 a0_4 a1_0 a1_1)) = some (r1, r2) := H
  have A8 := Aside0.mk A80
  clear A80
  by_cases c9 : t291 = true
  ·subst c9
   have H1 : ((spec_l1in.f a2 0 100000).bind fun t292 => (spec_Wheel.j0 k a2 (!t292) a0_0 a0_1 a0_2 a0_3 a0_4 a1_0 a1_1)) = some (r1, r2) := by rw [if_pos rfl] at H; exact H
   clear H
   have H := H1
   clear H1
   replace H := Option.bind_eq_some_iff.mp H
   obtain ⟨t292, A100, H⟩ := H
   replace H : (spec_Wheel.j0 k a2 (!t292) a0_0 a0_1 a0_2 a0_3 a0_4 a1_0 a1_1) = some (r1, r2) := H
   have A10 := Aside0.mk A100
   clear A100
   have H' := Aside0.mk H
   clear H
   have hnb11 := NB288_289.out
   have hnc11 := NB289_288.out
   have hnb12 := NB288_290.out
   have hnc12 := NB290_288.out
   obtain ⟨hcz13_0, hcz13_1, hcz13_2, hcz13_3, hcz13_4, hfz13_0, hfz13_1, hfz13_2, hfz13_3, hfz13_4⟩ := zs5 BK288
   have hnb14 := NB289_290.out
   have hnc14 := NB290_289.out
   obtain ⟨hcz15_0, hcz15_1, hfz15_0, hfz15_1⟩ := zs2 BK289
   go_wp2_with (first | ((with_reducible refine gate_callee (f := 77) rfl ?_); refine zL (some 9) Try.func77 #[.agg #[.int .i64 a0_0, .int .i64 a0_1, .int .i64 a0_2, .int .i64 a0_3, .int .i64 a0_4], .agg #[.int .i64 a1_0, .int .i64 a1_1]] ?_; (with_reducible refine (spec_l1good.calls a0_0 a0_1 a0_2 a0_3 a0_4 a1_0 a1_1 true _ A8.out).mono ?_); rintro e w16 ⟨rfl, hb⟩; refine ⟨_, rfl, ?_⟩; replace BK288 := zb BK288 hb; replace BK289 := zb BK289 hb; replace BK290 := zb BK290 hb; replace HB := zB HB hb; (try clear hb)) | (go_at_call 80; (with_reducible refine (spec_l1in.calls a2 0 100000 t292 _ A10.out).mono ?_); rintro e w' ⟨rfl, ⟨nd, rfl⟩⟩))
   go_meet
   case rel => exact ⟨_, (!t292), ze, H', ⟨by first | omega | exact Nat.le_refl _⟩, ⟨zy BK288⟩, ⟨zy BK289⟩, ⟨zy BK290⟩, ⟨by repeat (first | (with_reducible first | exact HB.out | apply below_alloc | apply pw_below_drewN | apply below_drew1 | refine below_set ?_ GE288.out | refine below_set ?_ GE289.out | refine below_set ?_ GE290.out) | exact HB.out)⟩⟩
  ·replace c9 := Bool.eq_false_iff.mpr c9
   subst c9
   have H1 : (spec_Wheel.j0 k a2 true a0_0 a0_1 a0_2 a0_3 a0_4 a1_0 a1_1) = some (r1, r2) := by rw [if_neg (show ¬ (false = true) by decide)] at H; exact H
   clear H
   have H := H1
   clear H1
   have H' := Aside0.mk H
   clear H
   have hnb17 := NB288_289.out
   have hnc17 := NB289_288.out
   have hnb18 := NB288_290.out
   have hnc18 := NB290_288.out
   obtain ⟨hcz19_0, hcz19_1, hcz19_2, hcz19_3, hcz19_4, hfz19_0, hfz19_1, hfz19_2, hfz19_3, hfz19_4⟩ := zs5 BK288
   have hnb20 := NB289_290.out
   have hnc20 := NB290_289.out
   obtain ⟨hcz21_0, hcz21_1, hfz21_0, hfz21_1⟩ := zs2 BK289
   go_wp2_with (first | ((with_reducible refine gate_callee (f := 77) rfl ?_); refine zL (some 9) Try.func77 #[.agg #[.int .i64 a0_0, .int .i64 a0_1, .int .i64 a0_2, .int .i64 a0_3, .int .i64 a0_4], .agg #[.int .i64 a1_0, .int .i64 a1_1]] ?_; (with_reducible refine (spec_l1good.calls a0_0 a0_1 a0_2 a0_3 a0_4 a1_0 a1_1 false _ A8.out).mono ?_); rintro e w22 ⟨rfl, hb⟩; refine ⟨_, rfl, ?_⟩; replace BK288 := zb BK288 hb; replace BK289 := zb BK289 hb; replace BK290 := zb BK290 hb; replace HB := zB HB hb; (try clear hb)))
   go_meet
   case rel => exact ⟨_, (true), ze, H', ⟨by first | omega | exact Nat.le_refl _⟩, ⟨zy BK288⟩, ⟨zy BK289⟩, ⟨zy BK290⟩, ⟨by repeat (first | (with_reducible first | exact HB.out | apply below_alloc | apply pw_below_drewN | apply below_drew1 | refine below_set ?_ GE288.out | refine below_set ?_ GE289.out | refine below_set ?_ GE290.out) | exact HB.out)⟩⟩
 case rest =>
  clear HC4
  (try clear c1); (try clear c2); (try clear p2); (try clear c7); (try clear c9); (try clear c11); (try clear c12); (try clear c14); (try clear c17); (try clear c18); (try clear c20); (try clear hcz13_0); (try clear hcz13_1); (try clear hcz13_2); (try clear hcz13_3); (try clear hcz13_4); (try clear hcz15_0); (try clear hcz15_1); (try clear hcz19_0); (try clear hcz19_1); (try clear hcz19_2); (try clear hcz19_3); (try clear hcz19_4); (try clear hcz21_0); (try clear hcz21_1); (try clear hfz13_0); (try clear hfz13_1); (try clear hfz13_2); (try clear hfz13_3); (try clear hfz13_4); (try clear hfz15_0); (try clear hfz15_1); (try clear hfz19_0); (try clear hfz19_1); (try clear hfz19_2); (try clear hfz19_3); (try clear hfz19_4); (try clear hfz21_0); (try clear hfz21_1)
  obtain ⟨kq, x15_3, rfl, HA, HJ3, BK288, BK289, BK290, HB⟩ := hcut
  cases kq with
  | zero => exact absurd HA.out (by simp [spec_Wheel.j0])
  | succ kj3 =>
   have H := HA.out
   clear HA
   simp only [spec_Wheel.j0] at H
   by_cases c23 : x15_3 = true
   ·subst c23
    have H1 : (some (0, 0)) = some (r1, r2) := by rw [if_pos rfl] at H; exact H
    clear H
    have H := H1
    clear H1
    simp only [Option.some.injEq, Prod.mk.injEq] at H
    obtain ⟨rfl, rfl⟩ := H
    have hnb24 := NB290_288.out
    have hnc24 := NB288_290.out
    have hnb25 := NB290_289.out
    have hnc25 := NB289_290.out
    obtain ⟨hcz26_0, hcz26_1, hfz26_0, hfz26_1⟩ := zs2 BK290
    go_wp2
    refine bodyPost_ret (results_cell_row rfl _ _ gb290 27 #[.int .i64 0, .int .i64 0] (0, 0) _ rfl (by (with_reducible repeat (first | refine blk_drewN ?_ _ | refine blk_drew ?_ | refine blk_alloc ?_ _)); refine blk_put (cs := #[.int .i64 0, .int .i64 0]) ?_ 1 _ rfl; (with_reducible repeat (first | refine blk_drewN ?_ _ | refine blk_drew ?_ | refine blk_alloc ?_ _)); refine blk_put (cs := #[.int .i64 0, .int .i64 0]) ?_ 0 _ rfl; (with_reducible repeat (first | refine blk_drewN ?_ _ | refine blk_drew ?_ | refine blk_alloc ?_ _)); exact BK290.out) Try.underlying27 rfl (by kernel_rfl)) rfl ?_
    exact ⟨by first | rfl | (simp [errW_none, errW_some] <;> rfl) | (simp [*, errW_none, errW_some] <;> rfl), by repeat (first | (with_reducible first | exact HB.out | apply below_alloc | apply pw_below_drewN | apply below_drew1 | refine below_set ?_ GE288.out | refine below_set ?_ GE289.out | refine below_set ?_ GE290.out) | exact HB.out)⟩
   ·replace c23 := Bool.eq_false_iff.mpr c23
    subst c23
    have H1 : ((spec_l1least.f kj3 a0_0 a0_1 a0_2 a0_3 a0_4 a2).bind fun t293 => ((spec_l1most.f kj3 a0_0 a0_1 a0_2 a0_3 a0_4 a2).bind fun t294 => ((spec_l1clip.f kj3 (wrap64 (a1_0 + t293)) (wrap64 (a1_1 + t294))).bind fun bt295 => (some (bt295.1, bt295.2))))) = some (r1, r2) := by rw [if_neg (show ¬ (false = true) by decide)] at H; exact H
    clear H
    have H := H1
    clear H1
    replace H := Option.bind_eq_some_iff.mp H
    obtain ⟨t293, A270, H⟩ := H
    replace H : ((spec_l1most.f kj3 a0_0 a0_1 a0_2 a0_3 a0_4 a2).bind fun t294 => ((spec_l1clip.f kj3 (wrap64 (a1_0 + t293)) (wrap64 (a1_1 + t294))).bind fun bt295 => (some (bt295.1, bt295.2)))) = some (r1, r2) := H
    have A27 := Aside0.mk A270
    clear A270
    replace H := Option.bind_eq_some_iff.mp H
    obtain ⟨t294, A280, H⟩ := H
    replace H : ((spec_l1clip.f kj3 (wrap64 (a1_0 + t293)) (wrap64 (a1_1 + t294))).bind fun bt295 => (some (bt295.1, bt295.2))) = some (r1, r2) := H
    have A28 := Aside0.mk A280
    clear A280
    replace H := Option.bind_eq_some_iff.mp H
    obtain ⟨⟨t295, t296⟩, A290, H⟩ := H
    replace H : (some (t295, t296)) = some (r1, r2) := H
    have A29 := Aside0.mk A290
    clear A290
    simp only [Option.some.injEq, Prod.mk.injEq] at H
    obtain ⟨rfl, rfl⟩ := H
    try go_wp2
    have n0_ := Aside0.mk (blk_drew BK288.out)
    have n1_ := Aside0.mk (blk_drew BK289.out)
    have n2_ := Aside0.mk (blk_drew BK290.out)
    have n3_ := Aside0.mk (below_drew1 HB.out)
    clear BK288 BK289 BK290 HB
    have BK288 := n0_
    have BK289 := n1_
    have BK290 := n2_
    have HB := n3_
    clear n0_ n1_ n2_ n3_
    refine start_ (n := 15) (S := fun w' => w'.cell? ⟨gb289, 0, none⟩ = some (.int .i64 a1_0) ∧ w'.cell? ⟨gb289, 1, none⟩ = some (.int .i64 a1_1) ∧ w'.cell? ⟨gb288, 0, none⟩ = some (.int .i64 a0_0) ∧ w'.cell? ⟨gb288, 1, none⟩ = some (.int .i64 a0_1) ∧ w'.cell? ⟨gb288, 2, none⟩ = some (.int .i64 a0_2) ∧ w'.cell? ⟨gb288, 3, none⟩ = some (.int .i64 a0_3) ∧ w'.cell? ⟨gb288, 4, none⟩ = some (.int .i64 a0_4)) (ds := []) #[false, false, false, false, false, false, false, false, false, false, false, false, false, false, false] (by kernel_rfl) rfl rfl ⟨zc BK289 0, zc BK289 1, zc BK288 0, zc BK288 1, zc BK288 2, zc BK288 3, zc BK288 4⟩ (fun hHeld => ?_); refine with_tabW spec_Wheel.tab3 spec_Wheel.bits3 (fun HT_ HW_ => ?_)
    generalize wc.drew = w30 at BK288 BK289 BK290 HB hHeld ⊢
    refine zp 0 17 (zm 15 1) HT_ ?_
    refine zp 3 20 (zm 15 9) HT_ ?_
    refine zp 6 23 (zm 15 73) HT_ ?_
    refine zp 9 26 (zm 15 585) HT_ ?_
    refine zt 1 18 (zm 15 587) HT_ HW_ hHeld ?_
    refine zt 2 19 (zm 15 591) HT_ HW_ hHeld ?_
    refine zt 7 24 (zm 15 719) HT_ HW_ hHeld ?_
    refine zt 8 25 (zm 15 975) HT_ HW_ hHeld ?_
    refine zo 4 (some 21) (zm 15 991) HT_ (fun K hK => ?_)
    refine zG Try.func85 #[.agg #[.int .i64 a0_0, .int .i64 a0_1, .int .i64 a0_2, .int .i64 a0_3, .int .i64 a0_4], .int .i64 a2] ?_
    with_reducible refine (spec_l1least.calls kj3 a0_0 a0_1 a0_2 a0_3 a0_4 a2 t293 _ A27.out).mono ?_
    rintro e w31 ⟨rfl, hb⟩
    refine ⟨_, rfl, ?_⟩
    replace BK288 := zb BK288 hb
    replace BK289 := zb BK289 hb
    replace BK290 := zb BK290 hb
    replace HB := zB HB hb
    (try clear hb)
    refine hK.out _ _ ⟨zc BK289 0, zc BK289 1, zc BK288 0, zc BK288 1, zc BK288 2, zc BK288 3, zc BK288 4⟩ (fun hHeld => ?_)
    clear hK K
    refine zn 21 ?_
    refine zp 5 22 (zm 15 1023) HT_ ?_
    refine zo 10 (some 27) (zm 15 2047) HT_ (fun K hK => ?_)
    refine zG Try.func84 #[.agg #[.int .i64 a0_0, .int .i64 a0_1, .int .i64 a0_2, .int .i64 a0_3, .int .i64 a0_4], .int .i64 a2] ?_
    with_reducible refine (spec_l1most.calls kj3 a0_0 a0_1 a0_2 a0_3 a0_4 a2 t294 _ A28.out).mono ?_
    rintro e w32 ⟨rfl, hb⟩
    refine ⟨_, rfl, ?_⟩
    replace BK288 := zb BK288 hb
    replace BK289 := zb BK289 hb
    replace BK290 := zb BK290 hb
    replace HB := zB HB hb
    (try clear hb)
    refine hK.out _ _ ⟨zc BK289 0, zc BK289 1, zc BK288 0, zc BK288 1, zc BK288 2, zc BK288 3, zc BK288 4⟩ (fun hHeld => ?_)
    clear hK K
    refine zn 27 ?_
    refine zp 11 28 (zm 15 4095) HT_ ?_
    refine zp 12 29 (zm 15 8191) HT_ ?_
    refine zo 13 (some 30) (zm 15 16383) HT_ (fun K hK => ?_)
    refine zG Try.func71 #[.agg #[.int .i64 (wrap64 (a1_0 + t293)), .int .i64 (wrap64 (a1_1 + t294))]] ?_
    with_reducible refine (spec_l1clip.calls kj3 (wrap64 (a1_0 + t293)) (wrap64 (a1_1 + t294)) t295 t296 _ A29.out).mono ?_
    rintro e w33 ⟨rfl, hb⟩
    refine ⟨_, rfl, ?_⟩
    replace BK288 := zb BK288 hb
    replace BK289 := zb BK289 hb
    replace BK290 := zb BK290 hb
    replace HB := zB HB hb
    (try clear hb)
    refine hK.out _ _ ⟨zc BK289 0, zc BK289 1, zc BK288 0, zc BK288 1, zc BK288 2, zc BK288 3, zc BK288 4⟩ (fun hHeld => ?_)
    clear hK K
    refine zn 30 ?_
    refine zo 14 (none) (zm 15 32767) HT_ (fun K hK => ?_)
    have hs34 : w33.cell? ⟨gb290, 0, none⟩ = some (.int .i64 0) := zc BK290 0
    have hfs34 := blk_frozen BK290.out 0
    have hns34_0 := NB288_290.out
    have hns34_1 := NB289_290.out
    have hms34_0 := NB290_288.out
    have hms34_1 := NB290_289.out
    have hs35 : w33.cell? ⟨gb290, 1, none⟩ = some (.int .i64 0) := zc BK290 1
    have hfs35 := blk_frozen BK290.out 1
    have hns35_0 := NB288_290.out
    have hns35_1 := NB289_290.out
    have hms35_0 := NB290_288.out
    have hms35_1 := NB290_289.out
    refine skip_ (w1 := ?_) (by rfl) rfl ?_ ?_
    rotate_left
    ·go_simp
     rfl
    refine hK.out _ _ ⟨((cell_far (p := ⟨gb290, _, none⟩) NB289_290.out _).trans (((cell_far (p := ⟨gb290, _, none⟩) NB289_290.out _).trans (hHeld.1)))), ((cell_far (p := ⟨gb290, _, none⟩) NB289_290.out _).trans (((cell_far (p := ⟨gb290, _, none⟩) NB289_290.out _).trans (hHeld.2.1)))), ((cell_far (p := ⟨gb290, _, none⟩) NB288_290.out _).trans (((cell_far (p := ⟨gb290, _, none⟩) NB288_290.out _).trans (hHeld.2.2.1)))), ((cell_far (p := ⟨gb290, _, none⟩) NB288_290.out _).trans (((cell_far (p := ⟨gb290, _, none⟩) NB288_290.out _).trans (hHeld.2.2.2.1)))), ((cell_far (p := ⟨gb290, _, none⟩) NB288_290.out _).trans (((cell_far (p := ⟨gb290, _, none⟩) NB288_290.out _).trans (hHeld.2.2.2.2.1)))), ((cell_far (p := ⟨gb290, _, none⟩) NB288_290.out _).trans (((cell_far (p := ⟨gb290, _, none⟩) NB288_290.out _).trans (hHeld.2.2.2.2.2.1)))), ((cell_far (p := ⟨gb290, _, none⟩) NB288_290.out _).trans (((cell_far (p := ⟨gb290, _, none⟩) NB288_290.out _).trans (hHeld.2.2.2.2.2.2))))⟩ (fun hHeld => ?_)
    clear hK K
    refine done_ (done_of HT_.out (by kernel_rfl)) ?_
    try go_wp2
    refine bodyPost_ret (results_cell_row rfl _ _ gb290 27 #[.int .i64 t295, .int .i64 t296] (0, 0) _ rfl (by (with_reducible repeat (first | refine blk_drewN ?_ _ | refine blk_drew ?_ | refine blk_alloc ?_ _)); refine blk_put (cs := #[.int .i64 t295, .int .i64 0]) ?_ 1 _ rfl; (with_reducible repeat (first | refine blk_drewN ?_ _ | refine blk_drew ?_ | refine blk_alloc ?_ _)); refine blk_put (cs := #[.int .i64 0, .int .i64 0]) ?_ 0 _ rfl; (with_reducible repeat (first | refine blk_drewN ?_ _ | refine blk_drew ?_ | refine blk_alloc ?_ _)); exact BK290.out) Try.underlying27 rfl (by kernel_rfl)) rfl ?_
    exact ⟨by first | rfl | (simp [errW_none, errW_some] <;> rfl) | (simp [*, errW_none, errW_some] <;> rfl), by repeat (first | (with_reducible first | exact HB.out | apply below_alloc | apply pw_below_drewN | apply below_drew1 | refine below_set ?_ GE288.out | refine below_set ?_ GE289.out | refine below_set ?_ GE290.out) | exact HB.out)⟩

/-! ### spec_Meets: function 72 -/
def spec_Meets.f (a0_0 : Int) (a0_1 : Int) (a1_0 : Int) (a1_1 : Int) : Option (Bool) := if a0_0 ≤ a1_1 then (some (decide (a1_0 ≤ a0_1))) else (some false)
set_option maxHeartbeats 8000000 in
set_option maxRecDepth 100000 in
theorem spec_Meets.calls (a0_0 : Int) (a0_1 : Int) (a1_0 : Int) (a1_1 : Int) (r : Bool) (w : World) (h : spec_Meets.f a0_0 a0_1 a1_0 a1_1 = some r) :
  Calls Try.prog 72 #[.agg #[.int .i64 a0_0, .int .i64 a0_1], .agg #[.int .i64 a1_0, .int .i64 a1_1]] w fun e w' => e = .returned (.bool r) ∧ Below w.heap.size w w' := by
 have hu27 := Try.underlying27
 have HB := Aside0.mk (Below.refl w.heap.size w)
 have H : (if a0_0 ≤ a1_1 then (some (decide (a1_0 ≤ a0_1))) else (some false)) = some r := h
 clear h
 by_cases c3 : a0_0 ≤ a1_1
 ·rw [if_pos c3] at H
  have c3b0 : decide (a0_0 ≤ a1_1) = true := decide_eq_true c3
  clear c3
  obtain rfl := Option.some.inj H
  go_enter Try.func72, Try.ntmps72
  go_wp2_with (first | ((with_reducible refine gate_dst (N := 2) rfl ?_); refine zx 2 #[.int .i64 a0_0, .int .i64 a0_1] 27 ?_; intro gb297 hg w4 hbox hb; have BK297 := Aside0.mk (hbox); have GW297 := zge HB hg; have GE297 := GW297; replace HB := zB HB hb; clear hb hbox hg) | ((with_reducible refine gate_dst (N := 3) rfl ?_); refine zx 3 #[.int .i64 a1_0, .int .i64 a1_1] 27 ?_; intro gb298 hg w5 hbox hb; have BK298 := Aside0.mk (hbox); have GW298 := zge HB hg; have GE298 := GW298; have NB297_298 := zl BK297 hg; have NB298_297 := zg BK297 hg; replace BK297 := zb BK297 hb; replace HB := zB HB hb; clear hb hbox hg; have hnb6 := NB297_298.out; have hnc6 := NB298_297.out; obtain ⟨hcz7_0, hcz7_1, hfz7_0, hfz7_1⟩ := zs2 BK297; obtain ⟨hcz8_0, hcz8_1, hfz8_0, hfz8_1⟩ := zs2 BK298))
  go_ret
  exact ⟨by first | rfl | (simp [errW_none, errW_some] <;> rfl) | (simp [*, errW_none, errW_some] <;> rfl), by repeat (first | (with_reducible first | exact HB.out | apply below_alloc | apply pw_below_drewN | apply below_drew1 | refine below_set ?_ GE297.out | refine below_set ?_ GE298.out) | exact HB.out)⟩
 ·rw [if_neg c3] at H
  have c3b0 : decide (a0_0 ≤ a1_1) = false := decide_eq_false c3
  clear c3
  obtain rfl := Option.some.inj H
  go_enter Try.func72, Try.ntmps72
  go_wp2_with (first | ((with_reducible refine gate_dst (N := 2) rfl ?_); refine zx 2 #[.int .i64 a0_0, .int .i64 a0_1] 27 ?_; intro gb297 hg w9 hbox hb; have BK297 := Aside0.mk (hbox); have GW297 := zge HB hg; have GE297 := GW297; replace HB := zB HB hb; clear hb hbox hg) | ((with_reducible refine gate_dst (N := 3) rfl ?_); refine zx 3 #[.int .i64 a1_0, .int .i64 a1_1] 27 ?_; intro gb298 hg w10 hbox hb; have BK298 := Aside0.mk (hbox); have GW298 := zge HB hg; have GE298 := GW298; have NB297_298 := zl BK297 hg; have NB298_297 := zg BK297 hg; replace BK297 := zb BK297 hb; replace HB := zB HB hb; clear hb hbox hg; have hnb11 := NB297_298.out; have hnc11 := NB298_297.out; obtain ⟨hcz12_0, hcz12_1, hfz12_0, hfz12_1⟩ := zs2 BK297; obtain ⟨hcz13_0, hcz13_1, hfz13_0, hfz13_1⟩ := zs2 BK298))
  go_ret
  exact ⟨by first | rfl | (simp [errW_none, errW_some] <;> rfl) | (simp [*, errW_none, errW_some] <;> rfl), by repeat (first | (with_reducible first | exact HB.out | apply below_alloc | apply pw_below_drewN | apply below_drew1 | refine below_set ?_ GE297.out | refine below_set ?_ GE298.out) | exact HB.out)⟩

/-! ### spec_Both: function 98 -/
def spec_Both.f (a0_0 : Int) (a0_1 : Int) (a1_0 : Int) (a1_1 : Int) : Option (Int × Int) := (spec_Meets.f a0_0 a0_1 a1_0 a1_1).bind fun t302 => (if t302 = true then (if a1_0 > a0_0 then (if a1_1 < a0_1 then (some (a1_0, a1_1)) else (some (a1_0, a0_1))) else (if a1_1 < a0_1 then (some (a0_0, a1_1)) else (some (a0_0, a0_1)))) else (some (0, 0)))
set_option maxHeartbeats 8000000 in
set_option maxRecDepth 100000 in
theorem spec_Both.calls (a0_0 : Int) (a0_1 : Int) (a1_0 : Int) (a1_1 : Int) (r1 : Int) (r2 : Int) (w : World) (h : spec_Both.f a0_0 a0_1 a1_0 a1_1 = some (r1, r2)) :
  Calls Try.prog 98 #[.agg #[.int .i64 a0_0, .int .i64 a0_1], .agg #[.int .i64 a1_0, .int .i64 a1_1]] w fun e w' => e = .returned (.agg #[.int .i64 r1, .int .i64 r2]) ∧ Below w.heap.size w w' := by
 have hu27 := Try.underlying27
 have HB := Aside0.mk (Below.refl w.heap.size w)
 have H : ((spec_Meets.f a0_0 a0_1 a1_0 a1_1).bind fun t302 => (if t302 = true then (if a1_0 > a0_0 then (if a1_1 < a0_1 then (some (a1_0, a1_1)) else (some (a1_0, a0_1))) else (if a1_1 < a0_1 then (some (a0_0, a1_1)) else (some (a0_0, a0_1)))) else (some (0, 0)))) = some (r1, r2) := h
 clear h
 replace H := Option.bind_eq_some_iff.mp H
 obtain ⟨t302, A30, H⟩ := H
 replace H : (if t302 = true then (if a1_0 > a0_0 then (if a1_1 < a0_1 then (some (a1_0, a1_1)) else (some (a1_0, a0_1))) else (if a1_1 < a0_1 then (some (a0_0, a1_1)) else (some (a0_0, a0_1)))) else (some (0, 0))) = some (r1, r2) := H
 have A3 := Aside0.mk A30
 clear A30
 by_cases c4 : t302 = true
 ·subst c4
  have H1 : (if a1_0 > a0_0 then (if a1_1 < a0_1 then (some (a1_0, a1_1)) else (some (a1_0, a0_1))) else (if a1_1 < a0_1 then (some (a0_0, a1_1)) else (some (a0_0, a0_1)))) = some (r1, r2) := by rw [if_pos rfl] at H; exact H
  clear H
  have H := H1
  clear H1
  by_cases c5 : a1_0 > a0_0
  ·rw [if_pos c5] at H
   have c5b0 : decide (a0_0 < a1_0) = true := decide_eq_true c5
   clear c5
   by_cases c6 : a1_1 < a0_1
   ·rw [if_pos c6] at H
    have c6b0 : decide (a1_1 < a0_1) = true := decide_eq_true c6
    clear c6
    simp only [Option.some.injEq, Prod.mk.injEq] at H
    obtain ⟨rfl, rfl⟩ := H
    go_enter Try.func98, Try.ntmps98
    go_wp2_with (first | ((with_reducible refine gate_dst (N := 2) rfl ?_); refine zx 2 #[.int .i64 a0_0, .int .i64 a0_1] 27 ?_; intro gb299 hg w7 hbox hb; have BK299 := Aside0.mk (hbox); have GW299 := zge HB hg; have GE299 := GW299; replace HB := zB HB hb; clear hb hbox hg) | ((with_reducible refine gate_dst (N := 3) rfl ?_); refine zx 3 #[.int .i64 a1_0, .int .i64 a1_1] 27 ?_; intro gb300 hg w8 hbox hb; have BK300 := Aside0.mk (hbox); have GW300 := zge HB hg; have GE300 := GW300; have NB299_300 := zl BK299 hg; have NB300_299 := zg BK299 hg; replace BK299 := zb BK299 hb; replace HB := zB HB hb; clear hb hbox hg) | ((with_reducible refine gate_dst (N := 4) rfl ?_); refine zx 4 #[.int .i64 0, .int .i64 0] 27 ?_; intro gb301 hg w9 hbox hb; have BK301 := Aside0.mk (hbox); have GW301 := zge HB hg; have GE301 := GW301; have NB299_301 := zl BK299 hg; have NB301_299 := zg BK299 hg; have NB300_301 := zl BK300 hg; have NB301_300 := zg BK300 hg; replace BK299 := zb BK299 hb; replace BK300 := zb BK300 hb; replace HB := zB HB hb; clear hb hbox hg; have hnb10 := NB299_300.out; have hnc10 := NB300_299.out; have hnb11 := NB299_301.out; have hnc11 := NB301_299.out; obtain ⟨hcz12_0, hcz12_1, hfz12_0, hfz12_1⟩ := zs2 BK299; have hnb13 := NB300_301.out; have hnc13 := NB301_300.out; obtain ⟨hcz14_0, hcz14_1, hfz14_0, hfz14_1⟩ := zs2 BK300) | ((with_reducible refine gate_callee (f := 72) rfl ?_); refine zL (some 7) Try.func72 #[.agg #[.int .i64 a0_0, .int .i64 a0_1], .agg #[.int .i64 a1_0, .int .i64 a1_1]] ?_; (with_reducible refine (spec_Meets.calls a0_0 a0_1 a1_0 a1_1 true _ A3.out).mono ?_); rintro e w15 ⟨rfl, hb⟩; refine ⟨_, rfl, ?_⟩; replace BK299 := zb BK299 hb; replace BK300 := zb BK300 hb; replace BK301 := zb BK301 hb; replace HB := zB HB hb; (try clear hb); obtain ⟨hcz16_0, hcz16_1, hfz16_0, hfz16_1⟩ := zs2 BK300; obtain ⟨hcz17_0, hcz17_1, hfz17_0, hfz17_1⟩ := zs2 BK299; obtain ⟨hcz18_0, hcz18_1, hfz18_0, hfz18_1⟩ := zs2 BK301))
    refine bodyPost_ret (results_cell_row rfl _ _ gb301 27 #[.int .i64 a1_0, .int .i64 a1_1] (0, 0) _ rfl (by (with_reducible repeat (first | refine blk_drewN ?_ _ | refine blk_drew ?_ | refine blk_alloc ?_ _)); refine blk_put (cs := #[.int .i64 a1_0, .int .i64 0]) ?_ 1 _ rfl; (with_reducible repeat (first | refine blk_drewN ?_ _ | refine blk_drew ?_ | refine blk_alloc ?_ _)); refine blk_put (cs := #[.int .i64 0, .int .i64 0]) ?_ 0 _ rfl; (with_reducible repeat (first | refine blk_drewN ?_ _ | refine blk_drew ?_ | refine blk_alloc ?_ _)); refine blk_far ?_ NB301_299.out _; (with_reducible repeat (first | refine blk_drewN ?_ _ | refine blk_drew ?_ | refine blk_alloc ?_ _)); refine blk_far ?_ NB301_299.out _; (with_reducible repeat (first | refine blk_drewN ?_ _ | refine blk_drew ?_ | refine blk_alloc ?_ _)); exact BK301.out) Try.underlying27 rfl (by kernel_rfl)) rfl ?_
    exact ⟨by first | rfl | (simp [errW_none, errW_some] <;> rfl) | (simp [*, errW_none, errW_some] <;> rfl), by repeat (first | (with_reducible first | exact HB.out | apply below_alloc | apply pw_below_drewN | apply below_drew1 | refine below_set ?_ GE299.out | refine below_set ?_ GE300.out | refine below_set ?_ GE301.out) | exact HB.out)⟩
   ·rw [if_neg c6] at H
    have c6b0 : decide (a1_1 < a0_1) = false := decide_eq_false c6
    clear c6
    simp only [Option.some.injEq, Prod.mk.injEq] at H
    obtain ⟨rfl, rfl⟩ := H
    go_enter Try.func98, Try.ntmps98
    go_wp2_with (first | ((with_reducible refine gate_dst (N := 2) rfl ?_); refine zx 2 #[.int .i64 a0_0, .int .i64 a0_1] 27 ?_; intro gb299 hg w19 hbox hb; have BK299 := Aside0.mk (hbox); have GW299 := zge HB hg; have GE299 := GW299; replace HB := zB HB hb; clear hb hbox hg) | ((with_reducible refine gate_dst (N := 3) rfl ?_); refine zx 3 #[.int .i64 a1_0, .int .i64 a1_1] 27 ?_; intro gb300 hg w20 hbox hb; have BK300 := Aside0.mk (hbox); have GW300 := zge HB hg; have GE300 := GW300; have NB299_300 := zl BK299 hg; have NB300_299 := zg BK299 hg; replace BK299 := zb BK299 hb; replace HB := zB HB hb; clear hb hbox hg) | ((with_reducible refine gate_dst (N := 4) rfl ?_); refine zx 4 #[.int .i64 0, .int .i64 0] 27 ?_; intro gb301 hg w21 hbox hb; have BK301 := Aside0.mk (hbox); have GW301 := zge HB hg; have GE301 := GW301; have NB299_301 := zl BK299 hg; have NB301_299 := zg BK299 hg; have NB300_301 := zl BK300 hg; have NB301_300 := zg BK300 hg; replace BK299 := zb BK299 hb; replace BK300 := zb BK300 hb; replace HB := zB HB hb; clear hb hbox hg; have hnb22 := NB299_300.out; have hnc22 := NB300_299.out; have hnb23 := NB299_301.out; have hnc23 := NB301_299.out; obtain ⟨hcz24_0, hcz24_1, hfz24_0, hfz24_1⟩ := zs2 BK299; have hnb25 := NB300_301.out; have hnc25 := NB301_300.out; obtain ⟨hcz26_0, hcz26_1, hfz26_0, hfz26_1⟩ := zs2 BK300) | ((with_reducible refine gate_callee (f := 72) rfl ?_); refine zL (some 7) Try.func72 #[.agg #[.int .i64 a0_0, .int .i64 a0_1], .agg #[.int .i64 a1_0, .int .i64 a1_1]] ?_; (with_reducible refine (spec_Meets.calls a0_0 a0_1 a1_0 a1_1 true _ A3.out).mono ?_); rintro e w27 ⟨rfl, hb⟩; refine ⟨_, rfl, ?_⟩; replace BK299 := zb BK299 hb; replace BK300 := zb BK300 hb; replace BK301 := zb BK301 hb; replace HB := zB HB hb; (try clear hb); obtain ⟨hcz28_0, hcz28_1, hfz28_0, hfz28_1⟩ := zs2 BK300; obtain ⟨hcz29_0, hcz29_1, hfz29_0, hfz29_1⟩ := zs2 BK299; obtain ⟨hcz30_0, hcz30_1, hfz30_0, hfz30_1⟩ := zs2 BK301))
    refine bodyPost_ret (results_cell_row rfl _ _ gb301 27 #[.int .i64 a1_0, .int .i64 a0_1] (0, 0) _ rfl (by (with_reducible repeat (first | refine blk_drewN ?_ _ | refine blk_drew ?_ | refine blk_alloc ?_ _)); refine blk_put (cs := #[.int .i64 a1_0, .int .i64 0]) ?_ 1 _ rfl; (with_reducible repeat (first | refine blk_drewN ?_ _ | refine blk_drew ?_ | refine blk_alloc ?_ _)); refine blk_put (cs := #[.int .i64 0, .int .i64 0]) ?_ 0 _ rfl; (with_reducible repeat (first | refine blk_drewN ?_ _ | refine blk_drew ?_ | refine blk_alloc ?_ _)); refine blk_far ?_ NB301_299.out _; (with_reducible repeat (first | refine blk_drewN ?_ _ | refine blk_drew ?_ | refine blk_alloc ?_ _)); exact BK301.out) Try.underlying27 rfl (by kernel_rfl)) rfl ?_
    exact ⟨by first | rfl | (simp [errW_none, errW_some] <;> rfl) | (simp [*, errW_none, errW_some] <;> rfl), by repeat (first | (with_reducible first | exact HB.out | apply below_alloc | apply pw_below_drewN | apply below_drew1 | refine below_set ?_ GE299.out | refine below_set ?_ GE300.out | refine below_set ?_ GE301.out) | exact HB.out)⟩
  ·rw [if_neg c5] at H
   have c5b0 : decide (a0_0 < a1_0) = false := decide_eq_false c5
   clear c5
   by_cases c31 : a1_1 < a0_1
   ·rw [if_pos c31] at H
    have c31b0 : decide (a1_1 < a0_1) = true := decide_eq_true c31
    clear c31
    simp only [Option.some.injEq, Prod.mk.injEq] at H
    obtain ⟨rfl, rfl⟩ := H
    go_enter Try.func98, Try.ntmps98
    go_wp2_with (first | ((with_reducible refine gate_dst (N := 2) rfl ?_); refine zx 2 #[.int .i64 a0_0, .int .i64 a0_1] 27 ?_; intro gb299 hg w32 hbox hb; have BK299 := Aside0.mk (hbox); have GW299 := zge HB hg; have GE299 := GW299; replace HB := zB HB hb; clear hb hbox hg) | ((with_reducible refine gate_dst (N := 3) rfl ?_); refine zx 3 #[.int .i64 a1_0, .int .i64 a1_1] 27 ?_; intro gb300 hg w33 hbox hb; have BK300 := Aside0.mk (hbox); have GW300 := zge HB hg; have GE300 := GW300; have NB299_300 := zl BK299 hg; have NB300_299 := zg BK299 hg; replace BK299 := zb BK299 hb; replace HB := zB HB hb; clear hb hbox hg) | ((with_reducible refine gate_dst (N := 4) rfl ?_); refine zx 4 #[.int .i64 0, .int .i64 0] 27 ?_; intro gb301 hg w34 hbox hb; have BK301 := Aside0.mk (hbox); have GW301 := zge HB hg; have GE301 := GW301; have NB299_301 := zl BK299 hg; have NB301_299 := zg BK299 hg; have NB300_301 := zl BK300 hg; have NB301_300 := zg BK300 hg; replace BK299 := zb BK299 hb; replace BK300 := zb BK300 hb; replace HB := zB HB hb; clear hb hbox hg; have hnb35 := NB299_300.out; have hnc35 := NB300_299.out; have hnb36 := NB299_301.out; have hnc36 := NB301_299.out; obtain ⟨hcz37_0, hcz37_1, hfz37_0, hfz37_1⟩ := zs2 BK299; have hnb38 := NB300_301.out; have hnc38 := NB301_300.out; obtain ⟨hcz39_0, hcz39_1, hfz39_0, hfz39_1⟩ := zs2 BK300) | ((with_reducible refine gate_callee (f := 72) rfl ?_); refine zL (some 7) Try.func72 #[.agg #[.int .i64 a0_0, .int .i64 a0_1], .agg #[.int .i64 a1_0, .int .i64 a1_1]] ?_; (with_reducible refine (spec_Meets.calls a0_0 a0_1 a1_0 a1_1 true _ A3.out).mono ?_); rintro e w40 ⟨rfl, hb⟩; refine ⟨_, rfl, ?_⟩; replace BK299 := zb BK299 hb; replace BK300 := zb BK300 hb; replace BK301 := zb BK301 hb; replace HB := zB HB hb; (try clear hb); obtain ⟨hcz41_0, hcz41_1, hfz41_0, hfz41_1⟩ := zs2 BK300; obtain ⟨hcz42_0, hcz42_1, hfz42_0, hfz42_1⟩ := zs2 BK299; obtain ⟨hcz43_0, hcz43_1, hfz43_0, hfz43_1⟩ := zs2 BK301))
    refine bodyPost_ret (results_cell_row rfl _ _ gb301 27 #[.int .i64 a0_0, .int .i64 a1_1] (0, 0) _ rfl (by (with_reducible repeat (first | refine blk_drewN ?_ _ | refine blk_drew ?_ | refine blk_alloc ?_ _)); refine blk_put (cs := #[.int .i64 a0_0, .int .i64 0]) ?_ 1 _ rfl; (with_reducible repeat (first | refine blk_drewN ?_ _ | refine blk_drew ?_ | refine blk_alloc ?_ _)); refine blk_put (cs := #[.int .i64 0, .int .i64 0]) ?_ 0 _ rfl; (with_reducible repeat (first | refine blk_drewN ?_ _ | refine blk_drew ?_ | refine blk_alloc ?_ _)); refine blk_far ?_ NB301_299.out _; (with_reducible repeat (first | refine blk_drewN ?_ _ | refine blk_drew ?_ | refine blk_alloc ?_ _)); exact BK301.out) Try.underlying27 rfl (by kernel_rfl)) rfl ?_
    exact ⟨by first | rfl | (simp [errW_none, errW_some] <;> rfl) | (simp [*, errW_none, errW_some] <;> rfl), by repeat (first | (with_reducible first | exact HB.out | apply below_alloc | apply pw_below_drewN | apply below_drew1 | refine below_set ?_ GE299.out | refine below_set ?_ GE300.out | refine below_set ?_ GE301.out) | exact HB.out)⟩
   ·rw [if_neg c31] at H
    have c31b0 : decide (a1_1 < a0_1) = false := decide_eq_false c31
    clear c31
    simp only [Option.some.injEq, Prod.mk.injEq] at H
    obtain ⟨rfl, rfl⟩ := H
    go_enter Try.func98, Try.ntmps98
    go_wp2_with (first | ((with_reducible refine gate_dst (N := 2) rfl ?_); refine zx 2 #[.int .i64 a0_0, .int .i64 a0_1] 27 ?_; intro gb299 hg w44 hbox hb; have BK299 := Aside0.mk (hbox); have GW299 := zge HB hg; have GE299 := GW299; replace HB := zB HB hb; clear hb hbox hg) | ((with_reducible refine gate_dst (N := 3) rfl ?_); refine zx 3 #[.int .i64 a1_0, .int .i64 a1_1] 27 ?_; intro gb300 hg w45 hbox hb; have BK300 := Aside0.mk (hbox); have GW300 := zge HB hg; have GE300 := GW300; have NB299_300 := zl BK299 hg; have NB300_299 := zg BK299 hg; replace BK299 := zb BK299 hb; replace HB := zB HB hb; clear hb hbox hg) | ((with_reducible refine gate_dst (N := 4) rfl ?_); refine zx 4 #[.int .i64 0, .int .i64 0] 27 ?_; intro gb301 hg w46 hbox hb; have BK301 := Aside0.mk (hbox); have GW301 := zge HB hg; have GE301 := GW301; have NB299_301 := zl BK299 hg; have NB301_299 := zg BK299 hg; have NB300_301 := zl BK300 hg; have NB301_300 := zg BK300 hg; replace BK299 := zb BK299 hb; replace BK300 := zb BK300 hb; replace HB := zB HB hb; clear hb hbox hg; have hnb47 := NB299_300.out; have hnc47 := NB300_299.out; have hnb48 := NB299_301.out; have hnc48 := NB301_299.out; obtain ⟨hcz49_0, hcz49_1, hfz49_0, hfz49_1⟩ := zs2 BK299; have hnb50 := NB300_301.out; have hnc50 := NB301_300.out; obtain ⟨hcz51_0, hcz51_1, hfz51_0, hfz51_1⟩ := zs2 BK300) | ((with_reducible refine gate_callee (f := 72) rfl ?_); refine zL (some 7) Try.func72 #[.agg #[.int .i64 a0_0, .int .i64 a0_1], .agg #[.int .i64 a1_0, .int .i64 a1_1]] ?_; (with_reducible refine (spec_Meets.calls a0_0 a0_1 a1_0 a1_1 true _ A3.out).mono ?_); rintro e w52 ⟨rfl, hb⟩; refine ⟨_, rfl, ?_⟩; replace BK299 := zb BK299 hb; replace BK300 := zb BK300 hb; replace BK301 := zb BK301 hb; replace HB := zB HB hb; (try clear hb); obtain ⟨hcz53_0, hcz53_1, hfz53_0, hfz53_1⟩ := zs2 BK300; obtain ⟨hcz54_0, hcz54_1, hfz54_0, hfz54_1⟩ := zs2 BK299; obtain ⟨hcz55_0, hcz55_1, hfz55_0, hfz55_1⟩ := zs2 BK301))
    refine bodyPost_ret (results_cell_row rfl _ _ gb301 27 #[.int .i64 a0_0, .int .i64 a0_1] (0, 0) _ rfl (by (with_reducible repeat (first | refine blk_drewN ?_ _ | refine blk_drew ?_ | refine blk_alloc ?_ _)); refine blk_put (cs := #[.int .i64 a0_0, .int .i64 0]) ?_ 1 _ rfl; (with_reducible repeat (first | refine blk_drewN ?_ _ | refine blk_drew ?_ | refine blk_alloc ?_ _)); refine blk_put (cs := #[.int .i64 0, .int .i64 0]) ?_ 0 _ rfl; (with_reducible repeat (first | refine blk_drewN ?_ _ | refine blk_drew ?_ | refine blk_alloc ?_ _)); exact BK301.out) Try.underlying27 rfl (by kernel_rfl)) rfl ?_
    exact ⟨by first | rfl | (simp [errW_none, errW_some] <;> rfl) | (simp [*, errW_none, errW_some] <;> rfl), by repeat (first | (with_reducible first | exact HB.out | apply below_alloc | apply pw_below_drewN | apply below_drew1 | refine below_set ?_ GE299.out | refine below_set ?_ GE300.out | refine below_set ?_ GE301.out) | exact HB.out)⟩
 ·replace c4 := Bool.eq_false_iff.mpr c4
  subst c4
  have H1 : (some (0, 0)) = some (r1, r2) := by rw [if_neg (show ¬ (false = true) by decide)] at H; exact H
  clear H
  have H := H1
  clear H1
  simp only [Option.some.injEq, Prod.mk.injEq] at H
  obtain ⟨rfl, rfl⟩ := H
  go_enter Try.func98, Try.ntmps98
  go_wp2_with (first | ((with_reducible refine gate_dst (N := 2) rfl ?_); refine zx 2 #[.int .i64 a0_0, .int .i64 a0_1] 27 ?_; intro gb299 hg w56 hbox hb; have BK299 := Aside0.mk (hbox); have GW299 := zge HB hg; have GE299 := GW299; replace HB := zB HB hb; clear hb hbox hg) | ((with_reducible refine gate_dst (N := 3) rfl ?_); refine zx 3 #[.int .i64 a1_0, .int .i64 a1_1] 27 ?_; intro gb300 hg w57 hbox hb; have BK300 := Aside0.mk (hbox); have GW300 := zge HB hg; have GE300 := GW300; have NB299_300 := zl BK299 hg; have NB300_299 := zg BK299 hg; replace BK299 := zb BK299 hb; replace HB := zB HB hb; clear hb hbox hg) | ((with_reducible refine gate_dst (N := 4) rfl ?_); refine zx 4 #[.int .i64 0, .int .i64 0] 27 ?_; intro gb301 hg w58 hbox hb; have BK301 := Aside0.mk (hbox); have GW301 := zge HB hg; have GE301 := GW301; have NB299_301 := zl BK299 hg; have NB301_299 := zg BK299 hg; have NB300_301 := zl BK300 hg; have NB301_300 := zg BK300 hg; replace BK299 := zb BK299 hb; replace BK300 := zb BK300 hb; replace HB := zB HB hb; clear hb hbox hg; have hnb59 := NB299_300.out; have hnc59 := NB300_299.out; have hnb60 := NB299_301.out; have hnc60 := NB301_299.out; obtain ⟨hcz61_0, hcz61_1, hfz61_0, hfz61_1⟩ := zs2 BK299; have hnb62 := NB300_301.out; have hnc62 := NB301_300.out; obtain ⟨hcz63_0, hcz63_1, hfz63_0, hfz63_1⟩ := zs2 BK300) | ((with_reducible refine gate_callee (f := 72) rfl ?_); refine zL (some 7) Try.func72 #[.agg #[.int .i64 a0_0, .int .i64 a0_1], .agg #[.int .i64 a1_0, .int .i64 a1_1]] ?_; (with_reducible refine (spec_Meets.calls a0_0 a0_1 a1_0 a1_1 false _ A3.out).mono ?_); rintro e w64 ⟨rfl, hb⟩; refine ⟨_, rfl, ?_⟩; replace BK299 := zb BK299 hb; replace BK300 := zb BK300 hb; replace BK301 := zb BK301 hb; replace HB := zB HB hb; (try clear hb); obtain ⟨hcz65_0, hcz65_1, hfz65_0, hfz65_1⟩ := zs2 BK301))
  refine bodyPost_ret (results_cell_row rfl _ _ gb301 27 #[.int .i64 0, .int .i64 0] (0, 0) _ rfl (by (with_reducible repeat (first | refine blk_drewN ?_ _ | refine blk_drew ?_ | refine blk_alloc ?_ _)); refine blk_put (cs := #[.int .i64 0, .int .i64 0]) ?_ 1 _ rfl; (with_reducible repeat (first | refine blk_drewN ?_ _ | refine blk_drew ?_ | refine blk_alloc ?_ _)); refine blk_put (cs := #[.int .i64 0, .int .i64 0]) ?_ 0 _ rfl; (with_reducible repeat (first | refine blk_drewN ?_ _ | refine blk_drew ?_ | refine blk_alloc ?_ _)); exact BK301.out) Try.underlying27 rfl (by kernel_rfl)) rfl ?_
  exact ⟨by first | rfl | (simp [errW_none, errW_some] <;> rfl) | (simp [*, errW_none, errW_some] <;> rfl), by repeat (first | (with_reducible first | exact HB.out | apply below_alloc | apply pw_below_drewN | apply below_drew1 | refine below_set ?_ GE299.out | refine below_set ?_ GE300.out | refine below_set ?_ GE301.out) | exact HB.out)⟩

end Go.Proofs.Ytommdabkkgcgbaa.QFnRead
