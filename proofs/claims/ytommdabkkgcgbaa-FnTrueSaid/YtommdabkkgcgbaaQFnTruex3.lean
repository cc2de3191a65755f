-- Written by a program of this session (wip/tools/turnprint.py over the kit's print), for this claim: functions as plain Lean and their contracts.
import Derived.Test.YtommdabkkgcgbaaQFnTruex0
import Derived.Test.YtommdabkkgcgbaaQFnTruex2
namespace Go.Proofs.Ytommdabkkgcgbaa.QFnTrue
open Go.RowKit Go.Proofs.YtommdabkkgcgbaaW.PrintWords Go.Proofs.YtommdabkkgcgbaaW.PrintLast Go.Proofs.YtommdabkkgcgbaaW.PrintMore
attribute [local go_sem] max2_int min2_int max_two min_two max_three min_three max_four min_four   -- for this text's walks alone
set_option linter.unusedVariables false
set_option linter.unusedSimpArgs false

/-! ### impl_Wheel: function 94 -/
def impl_Wheel.j0 : Nat → Int → Bool → Int → Int → Int → Int → Int → Int → Int → Option (Int × Int)
 | 0, _, _, _, _, _, _, _, _, _ => none
 | k + 1, x2, x21, x115000, x115001, x115002, x115003, x115004, x116000, x116001 => if x21 = true then (some (0, 0)) else ((impl_came.f x115000 x115001 x115002 x115003 x115004 x2).bind fun bt120 => ((impl_stay.f (wrap64 (x116000 + bt120.1))).bind fun t122 => ((impl_stay.f (wrap64 (x116001 + bt120.2))).bind fun t123 => (some (t122, t123)))))
def impl_Wheel.f (k : Nat) (a0_0 : Int) (a0_1 : Int) (a0_2 : Int) (a0_3 : Int) (a0_4 : Int) (a1_0 : Int) (a1_1 : Int) (a2 : Int) : Option (Int × Int) := (impl_RulesOk.f a0_0 a0_1 a0_2 a0_3 a0_4).bind fun t117 => (if t117 = true then ((impl_BoundOk.f a1_0 a1_1).bind fun t118 => (if t118 = true then ((impl_in.f a2 0 100000).bind fun t119 => (impl_Wheel.j0 k a2 (!t119) a0_0 a0_1 a0_2 a0_3 a0_4 a1_0 a1_1)) else (impl_Wheel.j0 k a2 true a0_0 a0_1 a0_2 a0_3 a0_4 a1_0 a1_1))) else (impl_Wheel.j0 k a2 true a0_0 a0_1 a0_2 a0_3 a0_4 a1_0 a1_1))
theorem impl_Wheel.mono_l : ∀ k, (∀ y0 y1 y2 y3 y4 y5 y6 y7 y8, LeO (impl_Wheel.j0 k y0 y1 y2 y3 y4 y5 y6 y7 y8) (impl_Wheel.j0 (k + 1) y0 y1 y2 y3 y4 y5 y6 y7 y8))
 | 0 => fun _ _ _ _ _ _ _ _ _ r h => by simp [impl_Wheel.j0] at h
 | k + 1 => by
  have ih0 := impl_Wheel.mono_l k
  ·intro y0 y1 y2 y3 y4 y5 y6 y7 y8
   unfold impl_Wheel.j0
   repeat' first
   | (with_reducible exact ih0 _ _ _ _ _ _ _ _ _)
   | (with_reducible exact LeO.refl _)
   | (with_reducible exact LeO.none _)
   | (with_reducible refine LeO.ite ?_ ?_)
   | (with_reducible refine LeO.bind ?_ (fun _ => ?_))
   | exact ih0 _ _ _ _ _ _ _ _ _
   | exact LeO.none _
   | refine LeO.ite ?_ ?_
   | refine LeO.bind ?_ (fun _ => ?_)
theorem impl_Wheel.mono : ∀ a0 a1 a2 a3 a4 a5 a6 a7 k, LeO (impl_Wheel.f k a0 a1 a2 a3 a4 a5 a6 a7) (impl_Wheel.f (k + 1) a0 a1 a2 a3 a4 a5 a6 a7) := by
 intro a0 a1 a2 a3 a4 a5 a6 a7 k
 have ih0 := impl_Wheel.mono_l k
 unfold impl_Wheel.f
 repeat' first
   | (with_reducible exact ih0 _ _ _ _ _ _ _ _ _)
   | (with_reducible exact LeO.refl _)
   | (with_reducible exact LeO.none _)
   | (with_reducible refine LeO.ite ?_ ?_)
   | (with_reducible refine LeO.bind ?_ (fun _ => ?_))
   | exact ih0 _ _ _ _ _ _ _ _ _
   | exact LeO.none _
   | refine LeO.ite ?_ ?_
   | refine LeO.bind ?_ (fun _ => ?_)
def impl_Wheel.T4 : Bool × List (List Nat × List Nat) := (true, [([], []), ([0], [0]), ([], []), ([1, 2], [1, 2]), ([3], [3]), ([], []), ([5], [5]), ([], []), ([6, 7], [6, 7]), ([8, 4], [8]), ([4, 9], [4, 9]), ([10, 9, 0, 1, 2, 3, 4, 5, 6, 7, 8, 9, 10], [10])])
def impl_Wheel.B4 : List Nat := [0, 1, 0, 7, 15, 0, 32, 0, 224, 511, 1023, 2047]
theorem impl_Wheel.tab4 : rtab .any (opsOf Try.f94 4) = impl_Wheel.T4 := by kernel_rfl
theorem impl_Wheel.bits4 : waitsOk impl_Wheel.T4.2 impl_Wheel.B4 = true := by kernel_rfl
set_option maxHeartbeats 8000000 in
set_option maxRecDepth 100000 in
theorem impl_Wheel.calls (k : Nat) (a0_0 : Int) (a0_1 : Int) (a0_2 : Int) (a0_3 : Int) (a0_4 : Int) (a1_0 : Int) (a1_1 : Int) (a2 : Int) (r1 : Int) (r2 : Int) (w : World) (h : impl_Wheel.f k a0_0 a0_1 a0_2 a0_3 a0_4 a1_0 a1_1 a2 = some (r1, r2)) :
  Calls Try.prog 94 #[.agg #[.int .i64 a0_0, .int .i64 a0_1, .int .i64 a0_2, .int .i64 a0_3, .int .i64 a0_4], .agg #[.int .i64 a1_0, .int .i64 a1_1], .int .i64 a2] w fun e w' => e = .returned (.agg #[.int .i64 r1, .int .i64 r2]) ∧ Below w.heap.size w w' := by
 have hu24 := Try.underlying24
 have hu27 := Try.underlying27
 have HB := Aside0.mk (Below.refl w.heap.size w)
 have H : ((impl_RulesOk.f a0_0 a0_1 a0_2 a0_3 a0_4).bind fun t117 => (if t117 = true then ((impl_BoundOk.f a1_0 a1_1).bind fun t118 => (if t118 = true then ((impl_in.f a2 0 100000).bind fun t119 => (impl_Wheel.j0 k a2 (!t119) a0_0 a0_1 a0_2 a0_3 a0_4 a1_0 a1_1)) else (impl_Wheel.j0 k a2 true a0_0 a0_1 a0_2 a0_3 a0_4 a1_0 a1_1))) else (impl_Wheel.j0 k a2 true a0_0 a0_1 a0_2 a0_3 a0_4 a1_0 a1_1))) = some (r1, r2) := h
 clear h
 have HC4 := Aside0.mk H
 clear H
 go_enter Try.func94, Try.ntmps94
 go_upto_region 1 with (first | ((with_reducible refine gate_dst (N := 3) rfl ?_); refine zx 3 #[.int .i64 a0_0, .int .i64 a0_1, .int .i64 a0_2, .int .i64 a0_3, .int .i64 a0_4] 24 ?_; intro gb114 hg w5 hbox hb; have BK114 := Aside0.mk (hbox); have GW114 := zge HB hg; have GE114 := GW114; replace HB := zB HB hb; clear hb hbox hg) | ((with_reducible refine gate_dst (N := 4) rfl ?_); refine zx 4 #[.int .i64 a1_0, .int .i64 a1_1] 27 ?_; intro gb115 hg w6 hbox hb; have BK115 := Aside0.mk (hbox); have GW115 := zge HB hg; have GE115 := GW115; have NB114_115 := zl BK114 hg; have NB115_114 := zg BK114 hg; replace BK114 := zb BK114 hb; replace HB := zB HB hb; clear hb hbox hg) | ((with_reducible refine gate_dst (N := 6) rfl ?_); refine zx 6 #[.int .i64 0, .int .i64 0] 27 ?_; intro gb116 hg w7 hbox hb; have BK116 := Aside0.mk (hbox); have GW116 := zge HB hg; have GE116 := GW116; have NB114_116 := zl BK114 hg; have NB116_114 := zg BK114 hg; have NB115_116 := zl BK115 hg; have NB116_115 := zg BK115 hg; replace BK114 := zb BK114 hb; replace BK115 := zb BK115 hb; replace HB := zB HB hb; clear hb hbox hg))
 (try simp only [Act.put, List.setIfInBounds_toArray, List.set_cons_zero, List.set_cons_succ])
 go_cut [21] (fun v21 wc => ∃ (kq : Nat) (x21_3 : Bool), v21 = .bool x21_3 ∧ Aside0 (impl_Wheel.j0 kq a2 x21_3 a0_0 a0_1 a0_2 a0_3 a0_4 a1_0 a1_1 = some (r1, r2)) ∧ Aside0 (kq ≤ k) ∧ Aside0 (wc.heap[gb114]? = some (.cells #[.int .i64 a0_0, .int .i64 a0_1, .int .i64 a0_2, .int .i64 a0_3, .int .i64 a0_4] 24 (0, 0))) ∧ Aside0 (wc.heap[gb115]? = some (.cells #[.int .i64 a1_0, .int .i64 a1_1] 27 (0, 0))) ∧ Aside0 (wc.heap[gb116]? = some (.cells #[.int .i64 0, .int .i64 0] 27 (0, 0))) ∧ Aside0 (Below w.heap.size w wc))
 case first =>
  have H := HC4.out
  clear HC4
  replace H := Option.bind_eq_some_iff.mp H
  obtain ⟨t117, A80, H⟩ := H
  replace H : (if t117 = true then ((impl_BoundOk.f a1_0 a1_1).bind fun t118 => (if t118 = true then ((impl_in.f a2 0 100000).bind fun t119 => (impl_Wheel.j0 k a2 (!t119) a0_0 a0_1 a0_2 a0_3 a0_4 a1_0 a1_1)) else (impl_Wheel.j0 k a2 true a0_0 a0_1 a0_2 a0_3 a0_4 a1_0 a1_1))) else (impl_Wheel.j0 k a2 true a0_0 a0_1 a0_2 a0_3 a0_4 a1_0 a1_1)) = some (r1, r2) := H
  have A8 := Aside0.mk A80
  clear A80
  by_cases c9 : t117 = true
  ·subst c9
   have H1 : ((impl_BoundOk.f a1_0 a1_1).bind fun t118 => (if t118 = true then ((impl_in.f a2 0 100000).bind fun t119 => (impl_Wheel.j0 k a2 (!t119) a0_0 a0_1 a0_2 a0_3 a0_4 a1_0 a1_1)) else (impl_Wheel.j0 k a2 true a0_0 a0_1 a0_2 a0_3 a0_4 a1_0 a1_1))) = some (r1, r2) := by rw [if_pos rfl] at H; exact H
   clear H
   have H := H1
   clear H1
   replace H := Option.bind_eq_some_iff.mp H
   obtain ⟨t118, A100, H⟩ := H
   replace H : (if t118 = true then ((impl_in.f a2 0 100000).bind fun t119 => (impl_Wheel.j0 k a2 (!t119) a0_0 a0_1 a0_2 a0_3 a0_4 a1_0 a1_1)) else (impl_Wheel.j0 k a2 true a0_0 a0_1 a0_2 a0_3 a0_4 a1_0 a1_1)) = some (r1, r2) := H
   have A10 := Aside0.mk A100
   clear A100
   by_cases c11 : t118 = true
   ·subst c11
    have H1 : ((impl_in.f a2 0 100000).bind fun t119 => (impl_Wheel.j0 k a2 (!t119) a0_0 a0_1 a0_2 a0_3 a0_4 a1_0 a1_1)) = some (r1, r2) := by rw [if_pos rfl] at H; exact H
    clear H
    have H := H1
    clear H1
    replace H := Option.bind_eq_some_iff.mp H
    obtain ⟨t119, A120, H⟩ := H
    replace H : (impl_Wheel.j0 k a2 (!t119) a0_0 a0_1 a0_2 a0_3 a0_4 a1_0 a1_1) = some (r1, r2) := H
    have A12 := Aside0.mk A120
    clear A120
    have H' := Aside0.mk H
    clear H
    have hnb13 := NB114_115.out
    have hnc13 := NB115_114.out
    have hnb14 := NB114_116.out
    have hnc14 := NB116_114.out
    obtain ⟨hcz15_0, hcz15_1, hcz15_2, hcz15_3, hcz15_4, hfz15_0, hfz15_1, hfz15_2, hfz15_3, hfz15_4⟩ := zs5 BK114
    go_wp2_with (first | ((with_reducible refine gate_callee (f := 64) rfl ?_); refine zL (some 10) Try.func64 #[.agg #[.int .i64 a0_0, .int .i64 a0_1, .int .i64 a0_2, .int .i64 a0_3, .int .i64 a0_4]] ?_; (with_reducible refine (impl_RulesOk.calls a0_0 a0_1 a0_2 a0_3 a0_4 true _ A8.out).mono ?_); rintro e w16 ⟨rfl, hb⟩; refine ⟨_, rfl, ?_⟩; replace BK114 := zb BK114 hb; replace BK115 := zb BK115 hb; replace BK116 := zb BK116 hb; replace HB := zB HB hb; (try clear hb); have hnb17 := NB115_116.out; have hnc17 := NB116_115.out; obtain ⟨hcz18_0, hcz18_1, hfz18_0, hfz18_1⟩ := zs2 BK115) | (go_at_call 78; (with_reducible refine (impl_BoundOk.calls a1_0 a1_1 true _ A10.out).mono ?_); rintro e w19 ⟨rfl, hb⟩; replace BK114 := zb BK114 hb; replace BK115 := zb BK115 hb; replace BK116 := zb BK116 hb; replace HB := zB HB hb; (try clear hb)) | (go_at_call 81; (with_reducible refine (impl_in.calls a2 0 100000 t119 _ A12.out).mono ?_); rintro e w' ⟨rfl, ⟨nd, rfl⟩⟩))
    go_meet
    case rel => exact ⟨_, (!t119), ze, H', ⟨by first | omega | exact Nat.le_refl _⟩, ⟨zy BK114⟩, ⟨zy BK115⟩, ⟨zy BK116⟩, ⟨by repeat (first | (with_reducible first | exact HB.out | apply below_alloc | apply pw_below_drewN | apply below_drew1 | refine below_set ?_ GE114.out | refine below_set ?_ GE115.out | refine below_set ?_ GE116.out) | exact HB.out)⟩⟩
   ·replace c11 := Bool.eq_false_iff.mpr c11
    subst c11
    have H1 : (impl_Wheel.j0 k a2 true a0_0 a0_1 a0_2 a0_3 a0_4 a1_0 a1_1) = some (r1, r2) := by rw [if_neg (show ¬ (false = true) by decide)] at H; exact H
    clear H
    have H := H1
    clear H1
    have H' := Aside0.mk H
    clear H
    have hnb20 := NB114_115.out
    have hnc20 := NB115_114.out
    have hnb21 := NB114_116.out
    have hnc21 := NB116_114.out
    obtain ⟨hcz22_0, hcz22_1, hcz22_2, hcz22_3, hcz22_4, hfz22_0, hfz22_1, hfz22_2, hfz22_3, hfz22_4⟩ := zs5 BK114
    go_wp2_with (first | ((with_reducible refine gate_callee (f := 64) rfl ?_); refine zL (some 10) Try.func64 #[.agg #[.int .i64 a0_0, .int .i64 a0_1, .int .i64 a0_2, .int .i64 a0_3, .int .i64 a0_4]] ?_; (with_reducible refine (impl_RulesOk.calls a0_0 a0_1 a0_2 a0_3 a0_4 true _ A8.out).mono ?_); rintro e w23 ⟨rfl, hb⟩; refine ⟨_, rfl, ?_⟩; replace BK114 := zb BK114 hb; replace BK115 := zb BK115 hb; replace BK116 := zb BK116 hb; replace HB := zB HB hb; (try clear hb); have hnb24 := NB115_116.out; have hnc24 := NB116_115.out; obtain ⟨hcz25_0, hcz25_1, hfz25_0, hfz25_1⟩ := zs2 BK115) | (go_at_call 78; (with_reducible refine (impl_BoundOk.calls a1_0 a1_1 false _ A10.out).mono ?_); rintro e w26 ⟨rfl, hb⟩; replace BK114 := zb BK114 hb; replace BK115 := zb BK115 hb; replace BK116 := zb BK116 hb; replace HB := zB HB hb; (try clear hb)))
    go_meet
    case rel => exact ⟨_, (true), ze, H', ⟨by first | omega | exact Nat.le_refl _⟩, ⟨zy BK114⟩, ⟨zy BK115⟩, ⟨zy BK116⟩, ⟨by repeat (first | (with_reducible first | exact HB.out | apply below_alloc | apply pw_below_drewN | apply below_drew1 | refine below_set ?_ GE114.out | refine below_set ?_ GE115.out | refine below_set ?_ GE116.out) | exact HB.out)⟩⟩
  ·replace c9 := Bool.eq_false_iff.mpr c9
   subst c9
   have H1 : (impl_Wheel.j0 k a2 true a0_0 a0_1 a0_2 a0_3 a0_4 a1_0 a1_1) = some (r1, r2) := by rw [if_neg (show ¬ (false = true) by decide)] at H; exact H
   clear H
   have H := H1
   clear H1
   have H' := Aside0.mk H
   clear H
   have hnb27 := NB114_115.out
   have hnc27 := NB115_114.out
   have hnb28 := NB114_116.out
   have hnc28 := NB116_114.out
   obtain ⟨hcz29_0, hcz29_1, hcz29_2, hcz29_3, hcz29_4, hfz29_0, hfz29_1, hfz29_2, hfz29_3, hfz29_4⟩ := zs5 BK114
   go_wp2_with (first | ((with_reducible refine gate_callee (f := 64) rfl ?_); refine zL (some 10) Try.func64 #[.agg #[.int .i64 a0_0, .int .i64 a0_1, .int .i64 a0_2, .int .i64 a0_3, .int .i64 a0_4]] ?_; (with_reducible refine (impl_RulesOk.calls a0_0 a0_1 a0_2 a0_3 a0_4 false _ A8.out).mono ?_); rintro e w30 ⟨rfl, hb⟩; refine ⟨_, rfl, ?_⟩; replace BK114 := zb BK114 hb; replace BK115 := zb BK115 hb; replace BK116 := zb BK116 hb; replace HB := zB HB hb; (try clear hb)))
   go_meet
   case rel => exact ⟨_, (true), ze, H', ⟨by first | omega | exact Nat.le_refl _⟩, ⟨zy BK114⟩, ⟨zy BK115⟩, ⟨zy BK116⟩, ⟨by repeat (first | (with_reducible first | exact HB.out | apply below_alloc | apply pw_below_drewN | apply below_drew1 | refine below_set ?_ GE114.out | refine below_set ?_ GE115.out | refine below_set ?_ GE116.out) | exact HB.out)⟩⟩
 case rest =>
  clear HC4
  (try clear c1); (try clear c2); (try clear p2); (try clear c6); (try clear c9); (try clear c11); (try clear c13); (try clear c14); (try clear c17); (try clear c20); (try clear c21); (try clear c24); (try clear c27); (try clear c28); (try clear hcz15_0); (try clear hcz15_1); (try clear hcz15_2); (try clear hcz15_3); (try clear hcz15_4); (try clear hcz18_0); (try clear hcz18_1); (try clear hcz22_0); (try clear hcz22_1); (try clear hcz22_2); (try clear hcz22_3); (try clear hcz22_4); (try clear hcz25_0); (try clear hcz25_1); (try clear hcz29_0); (try clear hcz29_1); (try clear hcz29_2); (try clear hcz29_3); (try clear hcz29_4); (try clear hfz15_0); (try clear hfz15_1); (try clear hfz15_2); (try clear hfz15_3); (try clear hfz15_4); (try clear hfz18_0); (try clear hfz18_1); (try clear hfz22_0); (try clear hfz22_1); (try clear hfz22_2); (try clear hfz22_3); (try clear hfz22_4); (try clear hfz25_0); (try clear hfz25_1); (try clear hfz29_0); (try clear hfz29_1); (try clear hfz29_2); (try clear hfz29_3); (try clear hfz29_4)
  obtain ⟨kq, x21_3, rfl, HA, HJ3, BK114, BK115, BK116, HB⟩ := hcut
  cases kq with
  | zero => exact absurd HA.out (by simp [impl_Wheel.j0])
  | succ kj3 =>
   have H := HA.out
   clear HA
   simp only [impl_Wheel.j0] at H
   by_cases c31 : x21_3 = true
   ·subst c31
    have H1 : (some (0, 0)) = some (r1, r2) := by rw [if_pos rfl] at H; exact H
    clear H
    have H := H1
    clear H1
    simp only [Option.some.injEq, Prod.mk.injEq] at H
    obtain ⟨rfl, rfl⟩ := H
    have hnb32 := NB116_114.out
    have hnc32 := NB114_116.out
    have hnb33 := NB116_115.out
    have hnc33 := NB115_116.out
    obtain ⟨hcz34_0, hcz34_1, hfz34_0, hfz34_1⟩ := zs2 BK116
    go_wp2
    refine bodyPost_ret (results_cell_row rfl _ _ gb116 27 #[.int .i64 0, .int .i64 0] (0, 0) _ rfl (by (with_reducible repeat (first | refine blk_drewN ?_ _ | refine blk_drew ?_ | refine blk_alloc ?_ _)); refine blk_put (cs := #[.int .i64 0, .int .i64 0]) ?_ 1 _ rfl; (with_reducible repeat (first | refine blk_drewN ?_ _ | refine blk_drew ?_ | refine blk_alloc ?_ _)); refine blk_put (cs := #[.int .i64 0, .int .i64 0]) ?_ 0 _ rfl; (with_reducible repeat (first | refine blk_drewN ?_ _ | refine blk_drew ?_ | refine blk_alloc ?_ _)); exact BK116.out) Try.underlying27 rfl (by kernel_rfl)) rfl ?_
    exact ⟨by first | rfl | (simp [errW_none, errW_some] <;> rfl) | (simp [*, errW_none, errW_some] <;> rfl), by repeat (first | (with_reducible first | exact HB.out | apply below_alloc | apply pw_below_drewN | apply below_drew1 | refine below_set ?_ GE114.out | refine below_set ?_ GE115.out | refine below_set ?_ GE116.out) | exact HB.out)⟩
   ·replace c31 := Bool.eq_false_iff.mpr c31
    subst c31
    have H1 : ((impl_came.f a0_0 a0_1 a0_2 a0_3 a0_4 a2).bind fun bt120 => ((impl_stay.f (wrap64 (a1_0 + bt120.1))).bind fun t122 => ((impl_stay.f (wrap64 (a1_1 + bt120.2))).bind fun t123 => (some (t122, t123))))) = some (r1, r2) := by rw [if_neg (show ¬ (false = true) by decide)] at H; exact H
    clear H
    have H := H1
    clear H1
    replace H := Option.bind_eq_some_iff.mp H
    obtain ⟨⟨t120, t121⟩, A350, H⟩ := H
    replace H : ((impl_stay.f (wrap64 (a1_0 + t120))).bind fun t122 => ((impl_stay.f (wrap64 (a1_1 + t121))).bind fun t123 => (some (t122, t123)))) = some (r1, r2) := H
    have A35 := Aside0.mk A350
    clear A350
    replace H := Option.bind_eq_some_iff.mp H
    obtain ⟨t122, A360, H⟩ := H
    replace H : ((impl_stay.f (wrap64 (a1_1 + t121))).bind fun t123 => (some (t122, t123))) = some (r1, r2) := H
    have A36 := Aside0.mk A360
    clear A360
    replace H := Option.bind_eq_some_iff.mp H
    obtain ⟨t123, A370, H⟩ := H
    replace H : (some (t122, t123)) = some (r1, r2) := H
    have A37 := Aside0.mk A370
    clear A370
    simp only [Option.some.injEq, Prod.mk.injEq] at H
    obtain ⟨rfl, rfl⟩ := H
    have hnb38 := NB114_115.out
    have hnc38 := NB115_114.out
    have hnb39 := NB114_116.out
    have hnc39 := NB116_114.out
    obtain ⟨hcz40_0, hcz40_1, hcz40_2, hcz40_3, hcz40_4, hfz40_0, hfz40_1, hfz40_2, hfz40_3, hfz40_4⟩ := zs5 BK114
    try go_wp2_with (first | ((with_reducible refine gate_callee (f := 86) rfl ?_); refine zL (some 26) Try.func86 #[.agg #[.int .i64 a0_0, .int .i64 a0_1, .int .i64 a0_2, .int .i64 a0_3, .int .i64 a0_4], .int .i64 a2] ?_; (with_reducible refine (impl_came.calls a0_0 a0_1 a0_2 a0_3 a0_4 a2 t120 t121 _ A35.out).mono ?_); rintro e w41 ⟨rfl, hb⟩; refine ⟨_, rfl, ?_⟩; replace BK114 := zb BK114 hb; replace BK115 := zb BK115 hb; replace BK116 := zb BK116 hb; replace HB := zB HB hb; (try clear hb)))
    have n0_ := Aside0.mk (blk_drew BK114.out)
    have n1_ := Aside0.mk (blk_drew BK115.out)
    have n2_ := Aside0.mk (blk_drew BK116.out)
    have n3_ := Aside0.mk (below_drew1 HB.out)
    clear BK114 BK115 BK116 HB
    have BK114 := n0_
    have BK115 := n1_
    have BK116 := n2_
    have HB := n3_
    clear n0_ n1_ n2_ n3_
    refine start_ (n := 12) (S := fun w' => w'.cell? ⟨gb115, 0, none⟩ = some (.int .i64 a1_0) ∧ w'.cell? ⟨gb115, 1, none⟩ = some (.int .i64 a1_1)) (ds := []) #[false, false, false, false, false, false, false, false, false, false, false, false] (by kernel_rfl) rfl rfl ⟨zc BK115 0, zc BK115 1⟩ (fun hHeld => ?_); refine with_tabW impl_Wheel.tab4 impl_Wheel.bits4 (fun HT_ HW_ => ?_)
    generalize w41.drew = w42 at BK114 BK115 BK116 HB hHeld ⊢
    refine zp 0 29 (zm 12 1) HT_ ?_
    refine zp 2 31 (zm 12 5) HT_ ?_
    refine zp 5 34 (zm 12 37) HT_ ?_
    refine zp 7 36 (zm 12 165) HT_ ?_
    refine zt 1 30 (zm 12 167) HT_ HW_ hHeld ?_
    refine zp 3 32 (zm 12 175) HT_ ?_
    refine zt 6 35 (zm 12 239) HT_ HW_ hHeld ?_
    refine zp 8 37 (zm 12 495) HT_ ?_
    refine zo 4 (some 33) (zm 12 511) HT_ (fun K hK => ?_)
    refine zG Try.func100 #[.int .i64 (wrap64 (a1_0 + t120))] ?_
    with_reducible refine (impl_stay.calls (wrap64 (a1_0 + t120)) t122 _ A36.out).mono ?_
    rintro e w43 ⟨rfl, hb⟩
    refine ⟨_, rfl, ?_⟩
    replace BK114 := zb BK114 hb
    replace BK115 := zb BK115 hb
    replace BK116 := zb BK116 hb
    replace HB := zB HB hb
    (try clear hb)
    refine hK.out _ _ ⟨zc BK115 0, zc BK115 1⟩ (fun hHeld => ?_)
    clear hK K
    refine zn 33 ?_
    refine zo 9 (some 38) (zm 12 1023) HT_ (fun K hK => ?_)
    refine zG Try.func100 #[.int .i64 (wrap64 (a1_1 + t121))] ?_
    with_reducible refine (impl_stay.calls (wrap64 (a1_1 + t121)) t123 _ A37.out).mono ?_
    rintro e w44 ⟨rfl, hb⟩
    refine ⟨_, rfl, ?_⟩
    replace BK114 := zb BK114 hb
    replace BK115 := zb BK115 hb
    replace BK116 := zb BK116 hb
    replace HB := zB HB hb
    (try clear hb)
    refine hK.out _ _ ⟨zc BK115 0, zc BK115 1⟩ (fun hHeld => ?_)
    clear hK K
    refine zn 38 ?_
    refine zp 10 39 (zm 12 2047) HT_ ?_
    refine zo 11 (none) (zm 12 4095) HT_ (fun K hK => ?_)
    have hs45 : w44.cell? ⟨gb116, 0, none⟩ = some (.int .i64 0) := zc BK116 0
    have hfs45 := blk_frozen BK116.out 0
    have hns45_0 := NB114_116.out
    have hns45_1 := NB115_116.out
    have hms45_0 := NB116_114.out
    have hms45_1 := NB116_115.out
    have hs46 : w44.cell? ⟨gb116, 1, none⟩ = some (.int .i64 0) := zc BK116 1
    have hfs46 := blk_frozen BK116.out 1
    have hns46_0 := NB114_116.out
    have hns46_1 := NB115_116.out
    have hms46_0 := NB116_114.out
    have hms46_1 := NB116_115.out
    refine skip_ (w1 := ?_) (by rfl) rfl ?_ ?_
    rotate_left
    ·go_simp
     rfl
    refine hK.out _ _ ⟨((cell_far (p := ⟨gb116, _, none⟩) NB115_116.out _).trans (((cell_far (p := ⟨gb116, _, none⟩) NB115_116.out _).trans (hHeld.1)))), ((cell_far (p := ⟨gb116, _, none⟩) NB115_116.out _).trans (((cell_far (p := ⟨gb116, _, none⟩) NB115_116.out _).trans (hHeld.2))))⟩ (fun hHeld => ?_)
    clear hK K
    refine done_ (done_of HT_.out (by kernel_rfl)) ?_
    try go_wp2
    refine bodyPost_ret (results_cell_row rfl _ _ gb116 27 #[.int .i64 t122, .int .i64 t123] (0, 0) _ rfl (by (with_reducible repeat (first | refine blk_drewN ?_ _ | refine blk_drew ?_ | refine blk_alloc ?_ _)); refine blk_put (cs := #[.int .i64 t122, .int .i64 0]) ?_ 1 _ rfl; (with_reducible repeat (first | refine blk_drewN ?_ _ | refine blk_drew ?_ | refine blk_alloc ?_ _)); refine blk_put (cs := #[.int .i64 0, .int .i64 0]) ?_ 0 _ rfl; (with_reducible repeat (first | refine blk_drewN ?_ _ | refine blk_drew ?_ | refine blk_alloc ?_ _)); exact BK116.out) Try.underlying27 rfl (by kernel_rfl)) rfl ?_
    exact ⟨by first | rfl | (simp [errW_none, errW_some] <;> rfl) | (simp [*, errW_none, errW_some] <;> rfl), by repeat (first | (with_reducible first | exact HB.out | apply below_alloc | apply pw_below_drewN | apply below_drew1 | refine below_set ?_ GE114.out | refine below_set ?_ GE115.out | refine below_set ?_ GE116.out) | exact HB.out)⟩

/-! ### impl_own: function 95 -/
def impl_own.f (a0_0 : Int) (a0_1 : Int) (a0_2 : Int) (a0_3 : Int) (a0_4 : Int) (a1 : Int) : Option (Int × Int) := (impl_stay.f (wrap64 (a1 - a0_2))).bind fun t126 => ((impl_stay.f (wrap64 (a1 + a0_2))).bind fun t127 => (some (t126, t127)))
def impl_own.T1 : Bool × List (List Nat × List Nat) := (true, [([], []), ([], []), ([1], [1]), ([0, 2], [0, 2]), ([3], [3]), ([], []), ([], []), ([6], [6]), ([5, 7], [5, 7]), ([8, 4], [8]), ([4, 9], [4, 9]), ([10, 9, 0, 1, 2, 3, 4, 5, 6, 7, 8, 9, 10], [10])])
def impl_own.B1 : List Nat := [0, 0, 2, 7, 15, 0, 0, 64, 224, 511, 1023, 2047]
theorem impl_own.tab1 : rtab .any (opsOf Try.f95 1) = impl_own.T1 := by kernel_rfl
theorem impl_own.bits1 : waitsOk impl_own.T1.2 impl_own.B1 = true := by kernel_rfl
set_option maxHeartbeats 8000000 in
set_option maxRecDepth 100000 in
theorem impl_own.calls (a0_0 : Int) (a0_1 : Int) (a0_2 : Int) (a0_3 : Int) (a0_4 : Int) (a1 : Int) (r1 : Int) (r2 : Int) (w : World) (h : impl_own.f a0_0 a0_1 a0_2 a0_3 a0_4 a1 = some (r1, r2)) :
  Calls Try.prog 95 #[.agg #[.int .i64 a0_0, .int .i64 a0_1, .int .i64 a0_2, .int .i64 a0_3, .int .i64 a0_4], .int .i64 a1] w fun e w' => e = .returned (.agg #[.int .i64 r1, .int .i64 r2]) ∧ Below w.heap.size w w' := by
 have hu24 := Try.underlying24
 have hu27 := Try.underlying27
 have HB := Aside0.mk (Below.refl w.heap.size w)
 have H : ((impl_stay.f (wrap64 (a1 - a0_2))).bind fun t126 => ((impl_stay.f (wrap64 (a1 + a0_2))).bind fun t127 => (some (t126, t127)))) = some (r1, r2) := h
 clear h
 replace H := Option.bind_eq_some_iff.mp H
 obtain ⟨t126, A30, H⟩ := H
 replace H : ((impl_stay.f (wrap64 (a1 + a0_2))).bind fun t127 => (some (t126, t127))) = some (r1, r2) := H
 have A3 := Aside0.mk A30
 clear A30
 replace H := Option.bind_eq_some_iff.mp H
 obtain ⟨t127, A40, H⟩ := H
 replace H : (some (t126, t127)) = some (r1, r2) := H
 have A4 := Aside0.mk A40
 clear A40
 simp only [Option.some.injEq, Prod.mk.injEq] at H
 obtain ⟨rfl, rfl⟩ := H
 go_enter Try.func95, Try.ntmps95
 try go_wp2_with (first | ((with_reducible refine gate_dst (N := 2) rfl ?_); refine zx 2 #[.int .i64 a0_0, .int .i64 a0_1, .int .i64 a0_2, .int .i64 a0_3, .int .i64 a0_4] 24 ?_; intro gb124 hg w5 hbox hb; have BK124 := Aside0.mk (hbox); have GW124 := zge HB hg; have GE124 := GW124; replace HB := zB HB hb; clear hb hbox hg) | ((with_reducible refine gate_dst (N := 4) rfl ?_); refine zx 4 #[.int .i64 0, .int .i64 0] 27 ?_; intro gb125 hg w6 hbox hb; have BK125 := Aside0.mk (hbox); have GW125 := zge HB hg; have GE125 := GW125; have NB124_125 := zl BK124 hg; have NB125_124 := zg BK124 hg; replace BK124 := zb BK124 hb; replace HB := zB HB hb; clear hb hbox hg))
 have n0_ := Aside0.mk (blk_drew BK124.out)
 have n1_ := Aside0.mk (blk_drew BK125.out)
 have n2_ := Aside0.mk (below_drew1 HB.out)
 clear BK124 BK125 HB
 have BK124 := n0_
 have BK125 := n1_
 have HB := n2_
 clear n0_ n1_ n2_
 refine start_ (n := 12) (S := fun w' => w'.cell? ⟨gb124, 0, none⟩ = some (.int .i64 a0_0) ∧ w'.cell? ⟨gb124, 1, none⟩ = some (.int .i64 a0_1) ∧ w'.cell? ⟨gb124, 2, none⟩ = some (.int .i64 a0_2) ∧ w'.cell? ⟨gb124, 3, none⟩ = some (.int .i64 a0_3) ∧ w'.cell? ⟨gb124, 4, none⟩ = some (.int .i64 a0_4)) (ds := []) #[false, false, false, false, false, false, false, false, false, false, false, false] (by kernel_rfl) rfl rfl ⟨zc BK124 0, zc BK124 1, zc BK124 2, zc BK124 3, zc BK124 4⟩ (fun hHeld => ?_); refine with_tabW impl_own.tab1 impl_own.bits1 (fun HT_ HW_ => ?_)
 generalize w6.drew = w7 at BK124 BK125 HB hHeld ⊢
 refine zp 0 5 (zm 12 1) HT_ ?_
 refine zp 1 6 (zm 12 3) HT_ ?_
 refine zp 5 10 (zm 12 35) HT_ ?_
 refine zp 6 11 (zm 12 99) HT_ ?_
 refine zt 2 7 (zm 12 103) HT_ HW_ hHeld ?_
 refine zp 3 8 (zm 12 111) HT_ ?_
 refine zt 7 12 (zm 12 239) HT_ HW_ hHeld ?_
 refine zp 8 13 (zm 12 495) HT_ ?_
 refine zo 4 (some 9) (zm 12 511) HT_ (fun K hK => ?_)
 refine zG Try.func100 #[.int .i64 (wrap64 (a1 - a0_2))] ?_
 with_reducible refine (impl_stay.calls (wrap64 (a1 - a0_2)) t126 _ A3.out).mono ?_
 rintro e w8 ⟨rfl, hb⟩
 refine ⟨_, rfl, ?_⟩
 replace BK124 := zb BK124 hb
 replace BK125 := zb BK125 hb
 replace HB := zB HB hb
 (try clear hb)
 refine hK.out _ _ ⟨zc BK124 0, zc BK124 1, zc BK124 2, zc BK124 3, zc BK124 4⟩ (fun hHeld => ?_)
 clear hK K
 refine zn 9 ?_
 refine zo 9 (some 14) (zm 12 1023) HT_ (fun K hK => ?_)
 refine zG Try.func100 #[.int .i64 (wrap64 (a1 + a0_2))] ?_
 with_reducible refine (impl_stay.calls (wrap64 (a1 + a0_2)) t127 _ A4.out).mono ?_
 rintro e w9 ⟨rfl, hb⟩
 refine ⟨_, rfl, ?_⟩
 replace BK124 := zb BK124 hb
 replace BK125 := zb BK125 hb
 replace HB := zB HB hb
 (try clear hb)
 refine hK.out _ _ ⟨zc BK124 0, zc BK124 1, zc BK124 2, zc BK124 3, zc BK124 4⟩ (fun hHeld => ?_)
 clear hK K
 refine zn 14 ?_
 refine zp 10 15 (zm 12 2047) HT_ ?_
 refine zo 11 (none) (zm 12 4095) HT_ (fun K hK => ?_)
 have hs10 : w9.cell? ⟨gb125, 0, none⟩ = some (.int .i64 0) := zc BK125 0
 have hfs10 := blk_frozen BK125.out 0
 have hns10_0 := NB124_125.out
 have hms10_0 := NB125_124.out
 have hs11 : w9.cell? ⟨gb125, 1, none⟩ = some (.int .i64 0) := zc BK125 1
 have hfs11 := blk_frozen BK125.out 1
 have hns11_0 := NB124_125.out
 have hms11_0 := NB125_124.out
 refine skip_ (w1 := ?_) (by rfl) rfl ?_ ?_
 rotate_left
 ·go_simp
  rfl
 refine hK.out _ _ ⟨((cell_far (p := ⟨gb125, _, none⟩) NB124_125.out _).trans (((cell_far (p := ⟨gb125, _, none⟩) NB124_125.out _).trans (hHeld.1)))), ((cell_far (p := ⟨gb125, _, none⟩) NB124_125.out _).trans (((cell_far (p := ⟨gb125, _, none⟩) NB124_125.out _).trans (hHeld.2.1)))), ((cell_far (p := ⟨gb125, _, none⟩) NB124_125.out _).trans (((cell_far (p := ⟨gb125, _, none⟩) NB124_125.out _).trans (hHeld.2.2.1)))), ((cell_far (p := ⟨gb125, _, none⟩) NB124_125.out _).trans (((cell_far (p := ⟨gb125, _, none⟩) NB124_125.out _).trans (hHeld.2.2.2.1)))), ((cell_far (p := ⟨gb125, _, none⟩) NB124_125.out _).trans (((cell_far (p := ⟨gb125, _, none⟩) NB124_125.out _).trans (hHeld.2.2.2.2))))⟩ (fun hHeld => ?_)
 clear hK K
 refine done_ (done_of HT_.out (by kernel_rfl)) ?_
 try go_wp2
 refine bodyPost_ret (results_cell_row rfl _ _ gb125 27 #[.int .i64 t126, .int .i64 t127] (0, 0) _ rfl (by (with_reducible repeat (first | refine blk_drewN ?_ _ | refine blk_drew ?_ | refine blk_alloc ?_ _)); refine blk_put (cs := #[.int .i64 t126, .int .i64 0]) ?_ 1 _ rfl; (with_reducible repeat (first | refine blk_drewN ?_ _ | refine blk_drew ?_ | refine blk_alloc ?_ _)); refine blk_put (cs := #[.int .i64 0, .int .i64 0]) ?_ 0 _ rfl; (with_reducible repeat (first | refine blk_drewN ?_ _ | refine blk_drew ?_ | refine blk_alloc ?_ _)); exact BK125.out) Try.underlying27 rfl (by kernel_rfl)) rfl ?_
 exact ⟨by first | rfl | (simp [errW_none, errW_some] <;> rfl) | (simp [*, errW_none, errW_some] <;> rfl), by repeat (first | (with_reducible first | exact HB.out | apply below_alloc | apply pw_below_drewN | apply below_drew1 | refine below_set ?_ GE124.out | refine below_set ?_ GE125.out) | exact HB.out)⟩

/-! ### impl_Meets: function 96 -/
def impl_Meets.f (a0_0 : Int) (a0_1 : Int) (a1_0 : Int) (a1_1 : Int) : Option (Bool) := if a0_0 ≤ a1_1 then (some (decide (a1_0 ≤ a0_1))) else (some false)
set_option maxHeartbeats 8000000 in
set_option maxRecDepth 100000 in
theorem impl_Meets.calls (a0_0 : Int) (a0_1 : Int) (a1_0 : Int) (a1_1 : Int) (r : Bool) (w : World) (h : impl_Meets.f a0_0 a0_1 a1_0 a1_1 = some r) :
  Calls Try.prog 96 #[.agg #[.int .i64 a0_0, .int .i64 a0_1], .agg #[.int .i64 a1_0, .int .i64 a1_1]] w fun e w' => e = .returned (.bool r) ∧ Below w.heap.size w w' := by
 have hu27 := Try.underlying27
 have HB := Aside0.mk (Below.refl w.heap.size w)
 have H : (if a0_0 ≤ a1_1 then (some (decide (a1_0 ≤ a0_1))) else (some false)) = some r := h
 clear h
 by_cases c3 : a0_0 ≤ a1_1
 ·rw [if_pos c3] at H
  have c3b0 : decide (a0_0 ≤ a1_1) = true := decide_eq_true c3
  clear c3
  obtain rfl := Option.some.inj H
  go_enter Try.func96, Try.ntmps96
  go_wp2_with (first | ((with_reducible refine gate_dst (N := 2) rfl ?_); refine zx 2 #[.int .i64 a0_0, .int .i64 a0_1] 27 ?_; intro gb128 hg w4 hbox hb; have BK128 := Aside0.mk (hbox); have GW128 := zge HB hg; have GE128 := GW128; replace HB := zB HB hb; clear hb hbox hg) | ((with_reducible refine gate_dst (N := 3) rfl ?_); refine zx 3 #[.int .i64 a1_0, .int .i64 a1_1] 27 ?_; intro gb129 hg w5 hbox hb; have BK129 := Aside0.mk (hbox); have GW129 := zge HB hg; have GE129 := GW129; have NB128_129 := zl BK128 hg; have NB129_128 := zg BK128 hg; replace BK128 := zb BK128 hb; replace HB := zB HB hb; clear hb hbox hg; have hnb6 := NB128_129.out; have hnc6 := NB129_128.out; obtain ⟨hcz7_0, hcz7_1, hfz7_0, hfz7_1⟩ := zs2 BK128; obtain ⟨hcz8_0, hcz8_1, hfz8_0, hfz8_1⟩ := zs2 BK129))
  go_ret
  exact ⟨by first | rfl | (simp [errW_none, errW_some] <;> rfl) | (simp [*, errW_none, errW_some] <;> rfl), by repeat (first | (with_reducible first | exact HB.out | apply below_alloc | apply pw_below_drewN | apply below_drew1 | refine below_set ?_ GE128.out | refine below_set ?_ GE129.out) | exact HB.out)⟩
 ·rw [if_neg c3] at H
  have c3b0 : decide (a0_0 ≤ a1_1) = false := decide_eq_false c3
  clear c3
  obtain rfl := Option.some.inj H
  go_enter Try.func96, Try.ntmps96
  go_wp2_with (first | ((with_reducible refine gate_dst (N := 2) rfl ?_); refine zx 2 #[.int .i64 a0_0, .int .i64 a0_1] 27 ?_; intro gb128 hg w9 hbox hb; have BK128 := Aside0.mk (hbox); have GW128 := zge HB hg; have GE128 := GW128; replace HB := zB HB hb; clear hb hbox hg) | ((with_reducible refine gate_dst (N := 3) rfl ?_); refine zx 3 #[.int .i64 a1_0, .int .i64 a1_1] 27 ?_; intro gb129 hg w10 hbox hb; have BK129 := Aside0.mk (hbox); have GW129 := zge HB hg; have GE129 := GW129; have NB128_129 := zl BK128 hg; have NB129_128 := zg BK128 hg; replace BK128 := zb BK128 hb; replace HB := zB HB hb; clear hb hbox hg; have hnb11 := NB128_129.out; have hnc11 := NB129_128.out; obtain ⟨hcz12_0, hcz12_1, hfz12_0, hfz12_1⟩ := zs2 BK128; obtain ⟨hcz13_0, hcz13_1, hfz13_0, hfz13_1⟩ := zs2 BK129))
  go_ret
  exact ⟨by first | rfl | (simp [errW_none, errW_some] <;> rfl) | (simp [*, errW_none, errW_some] <;> rfl), by repeat (first | (with_reducible first | exact HB.out | apply below_alloc | apply pw_below_drewN | apply below_drew1 | refine below_set ?_ GE128.out | refine below_set ?_ GE129.out) | exact HB.out)⟩

/-! ### impl_Both: function 101 -/
def impl_Both.f (a0_0 : Int) (a0_1 : Int) (a1_0 : Int) (a1_1 : Int) : Option (Int × Int) := (impl_Meets.f a0_0 a0_1 a1_0 a1_1).bind fun t133 => (if t133 = true then (some (mx a0_0 a1_0, mn a0_1 a1_1)) else (some (0, 0)))
set_option maxHeartbeats 8000000 in
set_option maxRecDepth 100000 in
theorem impl_Both.calls (a0_0 : Int) (a0_1 : Int) (a1_0 : Int) (a1_1 : Int) (r1 : Int) (r2 : Int) (w : World) (h : impl_Both.f a0_0 a0_1 a1_0 a1_1 = some (r1, r2)) :
  Calls Try.prog 101 #[.agg #[.int .i64 a0_0, .int .i64 a0_1], .agg #[.int .i64 a1_0, .int .i64 a1_1]] w fun e w' => e = .returned (.agg #[.int .i64 r1, .int .i64 r2]) ∧ Below w.heap.size w w' := by
 have hu27 := Try.underlying27
 have HB := Aside0.mk (Below.refl w.heap.size w)
 have H : ((impl_Meets.f a0_0 a0_1 a1_0 a1_1).bind fun t133 => (if t133 = true then (some (mx a0_0 a1_0, mn a0_1 a1_1)) else (some (0, 0)))) = some (r1, r2) := h
 clear h
 replace H := Option.bind_eq_some_iff.mp H
 obtain ⟨t133, A30, H⟩ := H
 replace H : (if t133 = true then (some (mx a0_0 a1_0, mn a0_1 a1_1)) else (some (0, 0))) = some (r1, r2) := H
 have A3 := Aside0.mk A30
 clear A30
 by_cases c4 : t133 = true
 ·subst c4
  have H1 : (some (mx a0_0 a1_0, mn a0_1 a1_1)) = some (r1, r2) := by rw [if_pos rfl] at H; exact H
  clear H
  have H := H1
  clear H1
  obtain ⟨ji5, hji5⟩ : ∃ j_ : Int, (mx a0_0 a1_0) = j_ := ⟨_, rfl⟩
  replace H : (some (ji5, mn a0_1 a1_1)) = some (r1, r2) := by first | (rw [hji5] at H; exact H) | (simp only [hji5] at H ⊢; exact H)
  (try rw [hji5] at A3)
  have hji5_ : (if a0_0 < a1_0 then a1_0 else a0_0) = ji5 := hji5
  obtain ⟨ji6, hji6⟩ : ∃ j_ : Int, (mn a0_1 a1_1) = j_ := ⟨_, rfl⟩
  replace H : (some (ji5, ji6)) = some (r1, r2) := by first | (rw [hji6] at H; exact H) | (simp only [hji6] at H ⊢; exact H)
  (try rw [hji6] at A3)
  have hji6_ : (if a1_1 < a0_1 then a1_1 else a0_1) = ji6 := hji6
  simp only [Option.some.injEq, Prod.mk.injEq] at H
  obtain ⟨rfl, rfl⟩ := H
  go_enter Try.func101, Try.ntmps101
  go_wp2_with (first | ((with_reducible refine gate_dst (N := 2) rfl ?_); refine zx 2 #[.int .i64 a0_0, .int .i64 a0_1] 27 ?_; intro gb130 hg w7 hbox hb; have BK130 := Aside0.mk (hbox); have GW130 := zge HB hg; have GE130 := GW130; replace HB := zB HB hb; clear hb hbox hg) | ((with_reducible refine gate_dst (N := 3) rfl ?_); refine zx 3 #[.int .i64 a1_0, .int .i64 a1_1] 27 ?_; intro gb131 hg w8 hbox hb; have BK131 := Aside0.mk (hbox); have GW131 := zge HB hg; have GE131 := GW131; have NB130_131 := zl BK130 hg; have NB131_130 := zg BK130 hg; replace BK130 := zb BK130 hb; replace HB := zB HB hb; clear hb hbox hg) | ((with_reducible refine gate_dst (N := 4) rfl ?_); refine zx 4 #[.int .i64 0, .int .i64 0] 27 ?_; intro gb132 hg w9 hbox hb; have BK132 := Aside0.mk (hbox); have GW132 := zge HB hg; have GE132 := GW132; have NB130_132 := zl BK130 hg; have NB132_130 := zg BK130 hg; have NB131_132 := zl BK131 hg; have NB132_131 := zg BK131 hg; replace BK130 := zb BK130 hb; replace BK131 := zb BK131 hb; replace HB := zB HB hb; clear hb hbox hg; have hnb10 := NB130_131.out; have hnc10 := NB131_130.out; have hnb11 := NB130_132.out; have hnc11 := NB132_130.out; obtain ⟨hcz12_0, hcz12_1, hfz12_0, hfz12_1⟩ := zs2 BK130; have hnb13 := NB131_132.out; have hnc13 := NB132_131.out; obtain ⟨hcz14_0, hcz14_1, hfz14_0, hfz14_1⟩ := zs2 BK131) | ((with_reducible refine gate_callee (f := 96) rfl ?_); refine zL (some 7) Try.func96 #[.agg #[.int .i64 a0_0, .int .i64 a0_1], .agg #[.int .i64 a1_0, .int .i64 a1_1]] ?_; (with_reducible refine (impl_Meets.calls a0_0 a0_1 a1_0 a1_1 true _ A3.out).mono ?_); rintro e w15 ⟨rfl, hb⟩; refine ⟨_, rfl, ?_⟩; replace BK130 := zb BK130 hb; replace BK131 := zb BK131 hb; replace BK132 := zb BK132 hb; replace HB := zB HB hb; (try clear hb); obtain ⟨hcz16_0, hcz16_1, hfz16_0, hfz16_1⟩ := zs2 BK130; obtain ⟨hcz17_0, hcz17_1, hfz17_0, hfz17_1⟩ := zs2 BK131; obtain ⟨hcz18_0, hcz18_1, hfz18_0, hfz18_1⟩ := zs2 BK132))
  refine bodyPost_ret (results_cell_row rfl _ _ gb132 27 #[.int .i64 ji5, .int .i64 ji6] (0, 0) _ rfl (by (with_reducible repeat (first | refine blk_drewN ?_ _ | refine blk_drew ?_ | refine blk_alloc ?_ _)); refine blk_put (cs := #[.int .i64 ji5, .int .i64 0]) ?_ 1 _ rfl; (with_reducible repeat (first | refine blk_drewN ?_ _ | refine blk_drew ?_ | refine blk_alloc ?_ _)); refine blk_put (cs := #[.int .i64 0, .int .i64 0]) ?_ 0 _ rfl; (with_reducible repeat (first | refine blk_drewN ?_ _ | refine blk_drew ?_ | refine blk_alloc ?_ _)); exact BK132.out) Try.underlying27 rfl (by kernel_rfl)) rfl ?_
  exact ⟨by first | rfl | (simp [errW_none, errW_some] <;> rfl) | (simp only [← hji5, ← hji6]; first | rfl | (simp [errW_none, errW_some] <;> rfl)) | (simp [*, errW_none, errW_some] <;> rfl), by repeat (first | (with_reducible first | exact HB.out | apply below_alloc | apply pw_below_drewN | apply below_drew1 | refine below_set ?_ GE130.out | refine below_set ?_ GE131.out | refine below_set ?_ GE132.out) | exact HB.out)⟩
 ·replace c4 := Bool.eq_false_iff.mpr c4
  subst c4
  have H1 : (some (0, 0)) = some (r1, r2) := by rw [if_neg (show ¬ (false = true) by decide)] at H; exact H
  clear H
  have H := H1
  clear H1
  simp only [Option.some.injEq, Prod.mk.injEq] at H
  obtain ⟨rfl, rfl⟩ := H
  go_enter Try.func101, Try.ntmps101
  go_wp2_with (first | ((with_reducible refine gate_dst (N := 2) rfl ?_); refine zx 2 #[.int .i64 a0_0, .int .i64 a0_1] 27 ?_; intro gb130 hg w19 hbox hb; have BK130 := Aside0.mk (hbox); have GW130 := zge HB hg; have GE130 := GW130; replace HB := zB HB hb; clear hb hbox hg) | ((with_reducible refine gate_dst (N := 3) rfl ?_); refine zx 3 #[.int .i64 a1_0, .int .i64 a1_1] 27 ?_; intro gb131 hg w20 hbox hb; have BK131 := Aside0.mk (hbox); have GW131 := zge HB hg; have GE131 := GW131; have NB130_131 := zl BK130 hg; have NB131_130 := zg BK130 hg; replace BK130 := zb BK130 hb; replace HB := zB HB hb; clear hb hbox hg) | ((with_reducible refine gate_dst (N := 4) rfl ?_); refine zx 4 #[.int .i64 0, .int .i64 0] 27 ?_; intro gb132 hg w21 hbox hb; have BK132 := Aside0.mk (hbox); have GW132 := zge HB hg; have GE132 := GW132; have NB130_132 := zl BK130 hg; have NB132_130 := zg BK130 hg; have NB131_132 := zl BK131 hg; have NB132_131 := zg BK131 hg; replace BK130 := zb BK130 hb; replace BK131 := zb BK131 hb; replace HB := zB HB hb; clear hb hbox hg; have hnb22 := NB130_131.out; have hnc22 := NB131_130.out; have hnb23 := NB130_132.out; have hnc23 := NB132_130.out; obtain ⟨hcz24_0, hcz24_1, hfz24_0, hfz24_1⟩ := zs2 BK130; have hnb25 := NB131_132.out; have hnc25 := NB132_131.out; obtain ⟨hcz26_0, hcz26_1, hfz26_0, hfz26_1⟩ := zs2 BK131) | ((with_reducible refine gate_callee (f := 96) rfl ?_); refine zL (some 7) Try.func96 #[.agg #[.int .i64 a0_0, .int .i64 a0_1], .agg #[.int .i64 a1_0, .int .i64 a1_1]] ?_; (with_reducible refine (impl_Meets.calls a0_0 a0_1 a1_0 a1_1 false _ A3.out).mono ?_); rintro e w27 ⟨rfl, hb⟩; refine ⟨_, rfl, ?_⟩; replace BK130 := zb BK130 hb; replace BK131 := zb BK131 hb; replace BK132 := zb BK132 hb; replace HB := zB HB hb; (try clear hb); obtain ⟨hcz28_0, hcz28_1, hfz28_0, hfz28_1⟩ := zs2 BK132))
  refine bodyPost_ret (results_cell_row rfl _ _ gb132 27 #[.int .i64 0, .int .i64 0] (0, 0) _ rfl (by (with_reducible repeat (first | refine blk_drewN ?_ _ | refine blk_drew ?_ | refine blk_alloc ?_ _)); refine blk_put (cs := #[.int .i64 0, .int .i64 0]) ?_ 1 _ rfl; (with_reducible repeat (first | refine blk_drewN ?_ _ | refine blk_drew ?_ | refine blk_alloc ?_ _)); refine blk_put (cs := #[.int .i64 0, .int .i64 0]) ?_ 0 _ rfl; (with_reducible repeat (first | refine blk_drewN ?_ _ | refine blk_drew ?_ | refine blk_alloc ?_ _)); exact BK132.out) Try.underlying27 rfl (by kernel_rfl)) rfl ?_
  exact ⟨by first | rfl | (simp [errW_none, errW_some] <;> rfl) | (simp [*, errW_none, errW_some] <;> rfl), by repeat (first | (with_reducible first | exact HB.out | apply below_alloc | apply pw_below_drewN | apply below_drew1 | refine below_set ?_ GE130.out | refine below_set ?_ GE131.out | refine below_set ?_ GE132.out) | exact HB.out)⟩

end Go.Proofs.Ytommdabkkgcgbaa.QFnTrue
