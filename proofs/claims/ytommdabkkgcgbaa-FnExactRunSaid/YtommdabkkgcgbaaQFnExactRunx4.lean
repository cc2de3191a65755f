-- Written by a program of this session (wip/tools/turnprint.py over the kit's print), for this claim: functions as plain Lean and their contracts.
import Derived.Test.YtommdabkkgcgbaaQFnExactRunx0
import Derived.Test.YtommdabkkgcgbaaQFnExactRunx1
import Derived.Test.YtommdabkkgcgbaaQFnExactRunx3
namespace Go.Proofs.Ytommdabkkgcgbaa.QFnExactRun
open Go.RowKit Go.Proofs.YtommdabkkgcgbaaW.PrintWords Go.Proofs.YtommdabkkgcgbaaW.PrintLast Go.Proofs.YtommdabkkgcgbaaW.PrintMore
attribute [local go_sem] max2_int min2_int max_two min_two max_three min_three max_four min_four   -- for this text's walks alone
set_option linter.unusedVariables false
set_option linter.unusedSimpArgs false

/-! ### spec_Wheel: function 70 -/
def spec_Wheel.j0 : Nat → Int → Bool → Int → Int → Int → Int → Int → Int → Int → Option (Int × Int)
 | 0, _, _, _, _, _, _, _, _, _ => none
 | k + 1, x2, x15, x156000, x156001, x156002, x156003, x156004, x157000, x157001 => if x15 = true then (some (0, 0)) else ((spec_l1least.f k x156000 x156001 x156002 x156003 x156004 x2).bind fun t160 => ((spec_l1most.f k x156000 x156001 x156002 x156003 x156004 x2).bind fun t161 => ((spec_l1clip.f k (wrap64 (x157000 + t160)) (wrap64 (x157001 + t161))).bind fun bt162 => (some (bt162.1, bt162.2)))))
def spec_Wheel.f (k : Nat) (a0_0 : Int) (a0_1 : Int) (a0_2 : Int) (a0_3 : Int) (a0_4 : Int) (a1_0 : Int) (a1_1 : Int) (a2 : Int) : Option (Int × Int) := (spec_l1good.f a0_0 a0_1 a0_2 a0_3 a0_4 a1_0 a1_1).bind fun t158 => (if t158 = true then ((spec_l1in.f a2 0 100000).bind fun t159 => (spec_Wheel.j0 k a2 (!t159) a0_0 a0_1 a0_2 a0_3 a0_4 a1_0 a1_1)) else (spec_Wheel.j0 k a2 true a0_0 a0_1 a0_2 a0_3 a0_4 a1_0 a1_1))
theorem spec_Wheel.mono_l : ∀ k, (∀ y0 y1 y2 y3 y4 y5 y6 y7 y8, LeO (spec_Wheel.j0 k y0 y1 y2 y3 y4 y5 y6 y7 y8) (spec_Wheel.j0 (k + 1) y0 y1 y2 y3 y4 y5 y6 y7 y8))
 | 0 => fun _ _ _ _ _ _ _ _ _ r h => by simp [spec_Wheel.j0] at h
 | k + 1 => by
  have ih0 := spec_Wheel.mono_l k
  ·intro y0 y1 y2 y3 y4 y5 y6 y7 y8
   unfold spec_Wheel.j0
   repeat' first
   | (with_reducible exact ih0 _ _ _ _ _ _ _ _ _)
   | (with_reducible exact spec_l1clip.mono _ _ _)
   | (with_reducible exact spec_l1least.mono _ _ _ _ _ _ _)
   | (with_reducible exact spec_l1most.mono _ _ _ _ _ _ _)
   | (with_reducible exact LeO.refl _)
   | (with_reducible exact LeO.none _)
   | (with_reducible refine LeO.ite ?_ ?_)
   | (with_reducible refine LeO.bind ?_ (fun _ => ?_))
   | exact ih0 _ _ _ _ _ _ _ _ _
   | exact spec_l1clip.mono _ _ _
   | exact spec_l1least.mono _ _ _ _ _ _ _
   | exact spec_l1most.mono _ _ _ _ _ _ _
   | exact LeO.none _
   | refine LeO.ite ?_ ?_
   | refine LeO.bind ?_ (fun _ => ?_)
theorem spec_Wheel.mono : ∀ a0 a1 a2 a3 a4 a5 a6 a7 k, LeO (spec_Wheel.f k a0 a1 a2 a3 a4 a5 a6 a7) (spec_Wheel.f (k + 1) a0 a1 a2 a3 a4 a5 a6 a7) := by
 intro a0 a1 a2 a3 a4 a5 a6 a7 k
 have ih0 := spec_Wheel.mono_l k
 unfold spec_Wheel.f
 repeat' first
   | (with_reducible exact ih0 _ _ _ _ _ _ _ _ _)
   | (with_reducible exact spec_l1clip.mono _ _ _)
   | (with_reducible exact spec_l1least.mono _ _ _ _ _ _ _)
   | (with_reducible exact spec_l1most.mono _ _ _ _ _ _ _)
   | (with_reducible exact LeO.refl _)
   | (with_reducible exact LeO.none _)
   | (with_reducible refine LeO.ite ?_ ?_)
   | (with_reducible refine LeO.bind ?_ (fun _ => ?_))
   | exact ih0 _ _ _ _ _ _ _ _ _
   | exact spec_l1clip.mono _ _ _
   | exact spec_l1least.mono _ _ _ _ _ _ _
   | exact spec_l1most.mono _ _ _ _ _ _ _
   | exact LeO.none _
   | refine LeO.ite ?_ ?_
   | refine LeO.bind ?_ (fun _ => ?_)
def spec_Wheel.T3 : Bool × List (List Nat × List Nat) := (true, [([], []), ([0], [0]), ([], []), ([], []), ([2, 3], [2, 3]), ([1, 4], [1, 4]), ([], []), ([6], [6]), ([], []), ([], []), ([8, 9, 4], [8, 9]), ([7, 10], [7, 10]), ([5, 11], [5, 11]), ([12, 10], [12]), ([13, 13, 0, 1, 2, 3, 4, 5, 6, 7, 8, 9, 10, 11, 12, 13], [13])])
def spec_Wheel.B3 : List Nat := [0, 1, 0, 0, 12, 31, 0, 64, 0, 0, 796, 2012, 4095, 8191, 16383]
theorem spec_Wheel.tab3 : rtab .any (opsOf Try.f70 3) = spec_Wheel.T3 := by kernel_rfl
theorem spec_Wheel.bits3 : waitsOk spec_Wheel.T3.2 spec_Wheel.B3 = true := by kernel_rfl
set_option maxHeartbeats 8000000 in
set_option maxRecDepth 100000 in
theorem spec_Wheel.calls (k : Nat) (a0_0 : Int) (a0_1 : Int) (a0_2 : Int) (a0_3 : Int) (a0_4 : Int) (a1_0 : Int) (a1_1 : Int) (a2 : Int) (r1 : Int) (r2 : Int) (w : World) (h : spec_Wheel.f k a0_0 a0_1 a0_2 a0_3 a0_4 a1_0 a1_1 a2 = some (r1, r2)) :
  Calls Try.prog 70 #[.agg #[.int .i64 a0_0, .int .i64 a0_1, .int .i64 a0_2, .int .i64 a0_3, .int .i64 a0_4], .agg #[.int .i64 a1_0, .int .i64 a1_1], .int .i64 a2] w fun e w' => e = .returned (.agg #[.int .i64 r1, .int .i64 r2]) ∧ Below w.heap.size w w' := by
 have hu24 := Try.underlying24
 have hu27 := Try.underlying27
 have HB := Aside0.mk (Below.refl w.heap.size w)
 have H : ((spec_l1good.f a0_0 a0_1 a0_2 a0_3 a0_4 a1_0 a1_1).bind fun t158 => (if t158 = true then ((spec_l1in.f a2 0 100000).bind fun t159 => (spec_Wheel.j0 k a2 (!t159) a0_0 a0_1 a0_2 a0_3 a0_4 a1_0 a1_1)) else (spec_Wheel.j0 k a2 true a0_0 a0_1 a0_2 a0_3 a0_4 a1_0 a1_1))) = some (r1, r2) := h
 clear h
 have HC4 := Aside0.mk H
 clear H
 go_enter Try.func70, Try.ntmps70
 go_upto_region 1 with (first | ((with_reducible refine gate_dst (N := 3) rfl ?_); refine zx 3 #[.int .i64 a0_0, .int .i64 a0_1, .int .i64 a0_2, .int .i64 a0_3, .int .i64 a0_4] 24 ?_; intro gb155 hg w5 hbox hb; have BK155 := Aside0.mk (hbox); have GW155 := zge HB hg; have GE155 := GW155; replace HB := zB HB hb; clear hb hbox hg) | ((with_reducible refine gate_dst (N := 4) rfl ?_); refine zx 4 #[.int .i64 a1_0, .int .i64 a1_1] 27 ?_; intro gb156 hg w6 hbox hb; have BK156 := Aside0.mk (hbox); have GW156 := zge HB hg; have GE156 := GW156; have NB155_156 := zl BK155 hg; have NB156_155 := zg BK155 hg; replace BK155 := zb BK155 hb; replace HB := zB HB hb; clear hb hbox hg) | ((with_reducible refine gate_dst (N := 6) rfl ?_); refine zx 6 #[.int .i64 0, .int .i64 0] 27 ?_; intro gb157 hg w7 hbox hb; have BK157 := Aside0.mk (hbox); have GW157 := zge HB hg; have GE157 := GW157; have NB155_157 := zl BK155 hg; have NB157_155 := zg BK155 hg; have NB156_157 := zl BK156 hg; have NB157_156 := zg BK156 hg; replace BK155 := zb BK155 hb; replace BK156 := zb BK156 hb; replace HB := zB HB hb; clear hb hbox hg))
 (try simp only [Act.put, List.setIfInBounds_toArray, List.set_cons_zero, List.set_cons_succ])
 go_cut [15] (fun v15 wc => ∃ (kq : Nat) (x15_3 : Bool), v15 = .bool x15_3 ∧ Aside0 (spec_Wheel.j0 kq a2 x15_3 a0_0 a0_1 a0_2 a0_3 a0_4 a1_0 a1_1 = some (r1, r2)) ∧ Aside0 (kq ≤ k) ∧ Aside0 (wc.heap[gb155]? = some (.cells #[.int .i64 a0_0, .int .i64 a0_1, .int .i64 a0_2, .int .i64 a0_3, .int .i64 a0_4] 24 (0, 0))) ∧ Aside0 (wc.heap[gb156]? = some (.cells #[.int .i64 a1_0, .int .i64 a1_1] 27 (0, 0))) ∧ Aside0 (wc.heap[gb157]? = some (.cells #[.int .i64 0, .int .i64 0] 27 (0, 0))) ∧ Aside0 (Below w.heap.size w wc))
 case first =>
  have H := HC4.out
  clear HC4
  replace H := Option.bind_eq_some_iff.mp H
  obtain ⟨t158, A80, H⟩ := H
  replace H : (if t158 = true then ((spec_l1in.f a2 0 100000).bind fun t159 => (spec_Wheel.j0 k a2 (!t159) a0_0 a0_1 a0_2 a0_3 a0_4 a1_0 a1_1)) else (spec_Wheel.j0 k a2 true a0_0 a0_1 a0_2 a0_3 a0_4 a1_0 a1_1)) = some (r1, r2) := H
  have A8 := Aside0.mk A80
  clear A80
  by_cases c9 : t158 = true
  ·subst c9
   have H1 : ((spec_l1in.f a2 0 100000).bind fun t159 => (spec_Wheel.j0 k a2 (!t159) a0_0 a0_1 a0_2 a0_3 a0_4 a1_0 a1_1)) = some (r1, r2) := by rw [if_pos rfl] at H; exact H
   clear H
   have H := H1
   clear H1
   replace H := Option.bind_eq_some_iff.mp H
   obtain ⟨t159, A100, H⟩ := H
   replace H : (spec_Wheel.j0 k a2 (!t159) a0_0 a0_1 a0_2 a0_3 a0_4 a1_0 a1_1) = some (r1, r2) := H
   have A10 := Aside0.mk A100
   clear A100
   have H' := Aside0.mk H
   clear H
   have hnb11 := NB155_156.out
   have hnc11 := NB156_155.out
   have hnb12 := NB155_157.out
   have hnc12 := NB157_155.out
   obtain ⟨hcz13_0, hcz13_1, hcz13_2, hcz13_3, hcz13_4, hfz13_0, hfz13_1, hfz13_2, hfz13_3, hfz13_4⟩ := zs5 BK155
   have hnb14 := NB156_157.out
   have hnc14 := NB157_156.out
   obtain ⟨hcz15_0, hcz15_1, hfz15_0, hfz15_1⟩ := zs2 BK156
   go_wp2_with (first | ((with_reducible refine gate_callee (f := 77) rfl ?_); refine zL (some 9) Try.func77 #[.agg #[.int .i64 a0_0, .int .i64 a0_1, .int .i64 a0_2, .int .i64 a0_3, .int .i64 a0_4], .agg #[.int .i64 a1_0, .int .i64 a1_1]] ?_; (with_reducible refine (spec_l1good.calls a0_0 a0_1 a0_2 a0_3 a0_4 a1_0 a1_1 true _ A8.out).mono ?_); rintro e w16 ⟨rfl, hb⟩; refine ⟨_, rfl, ?_⟩; replace BK155 := zb BK155 hb; replace BK156 := zb BK156 hb; replace BK157 := zb BK157 hb; replace HB := zB HB hb; (try clear hb)) | (go_at_call 80; (with_reducible refine (spec_l1in.calls a2 0 100000 t159 _ A10.out).mono ?_); rintro e w' ⟨rfl, ⟨nd, rfl⟩⟩))
   go_meet
   case rel => exact ⟨_, (!t159), ze, H', ⟨by first | omega | exact Nat.le_refl _⟩, ⟨zy BK155⟩, ⟨zy BK156⟩, ⟨zy BK157⟩, ⟨by repeat (first | (with_reducible first | exact HB.out | apply below_alloc | apply pw_below_drewN | apply below_drew1 | refine below_set ?_ GE155.out | refine below_set ?_ GE156.out | refine below_set ?_ GE157.out) | exact HB.out)⟩⟩
  ·replace c9 := Bool.eq_false_iff.mpr c9
   subst c9
   have H1 : (spec_Wheel.j0 k a2 true a0_0 a0_1 a0_2 a0_3 a0_4 a1_0 a1_1) = some (r1, r2) := by rw [if_neg (show ¬ (false = true) by decide)] at H; exact H
   clear H
   have H := H1
   clear H1
   have H' := Aside0.mk H
   clear H
   have hnb17 := NB155_156.out
   have hnc17 := NB156_155.out
   have hnb18 := NB155_157.out
   have hnc18 := NB157_155.out
   obtain ⟨hcz19_0, hcz19_1, hcz19_2, hcz19_3, hcz19_4, hfz19_0, hfz19_1, hfz19_2, hfz19_3, hfz19_4⟩ := zs5 BK155
   have hnb20 := NB156_157.out
   have hnc20 := NB157_156.out
   obtain ⟨hcz21_0, hcz21_1, hfz21_0, hfz21_1⟩ := zs2 BK156
   go_wp2_with (first | ((with_reducible refine gate_callee (f := 77) rfl ?_); refine zL (some 9) Try.func77 #[.agg #[.int .i64 a0_0, .int .i64 a0_1, .int .i64 a0_2, .int .i64 a0_3, .int .i64 a0_4], .agg #[.int .i64 a1_0, .int .i64 a1_1]] ?_; (with_reducible refine (spec_l1good.calls a0_0 a0_1 a0_2 a0_3 a0_4 a1_0 a1_1 false _ A8.out).mono ?_); rintro e w22 ⟨rfl, hb⟩; refine ⟨_, rfl, ?_⟩; replace BK155 := zb BK155 hb; replace BK156 := zb BK156 hb; replace BK157 := zb BK157 hb; replace HB := zB HB hb; (try clear hb)))
   go_meet
   case rel => exact ⟨_, (true), ze, H', ⟨by first | omega | exact Nat.le_refl _⟩, ⟨zy BK155⟩, ⟨zy BK156⟩, ⟨zy BK157⟩, ⟨by repeat (first | (with_reducible first | exact HB.out | apply below_alloc | apply pw_below_drewN | apply below_drew1 | refine below_set ?_ GE155.out | refine below_set ?_ GE156.out | refine below_set ?_ GE157.out) | exact HB.out)⟩⟩
 case rest =>
  clear HC4
  (try clear c1); (try clear c2); (try clear p2); (try clear c7); (try clear c9); (try clear c11); (try clear c12); (try clear c14); (try clear c17); (try clear c18); (try clear c20); (try clear hcz13_0); (try clear hcz13_1); (try clear hcz13_2); (try clear hcz13_3); (try clear hcz13_4); (try clear hcz15_0); (try clear hcz15_1); (try clear hcz19_0); (try clear hcz19_1); (try clear hcz19_2); (try clear hcz19_3); (try clear hcz19_4); (try clear hcz21_0); (try clear hcz21_1); (try clear hfz13_0); (try clear hfz13_1); (try clear hfz13_2); (try clear hfz13_3); (try clear hfz13_4); (try clear hfz15_0); (try clear hfz15_1); (try clear hfz19_0); (try clear hfz19_1); (try clear hfz19_2); (try clear hfz19_3); (try clear hfz19_4); (try clear hfz21_0); (try clear hfz21_1)
  obtain ⟨kq, x15_3, rfl, HA, HJ3, BK155, BK156, BK157, HB⟩ := hcut
  cases kq with
  | zero => exact absurd HA.out (by simp [spec_Wheel.j0])
  | succ kj3 =>
   have H := HA.out
   clear HA
   simp only [spec_Wheel.j0] at H
   by_cases c23 : x15_3 = true
   ·subst c23
    have H1 : (some (0, 0)) = some (r1, r2) := by rw [if_pos rfl] at H; exact H
    clear H
    have H := H1
    clear H1
    simp only [Option.some.injEq, Prod.mk.injEq] at H
    obtain ⟨rfl, rfl⟩ := H
    have hnb24 := NB157_155.out
    have hnc24 := NB155_157.out
    have hnb25 := NB157_156.out
    have hnc25 := NB156_157.out
    obtain ⟨hcz26_0, hcz26_1, hfz26_0, hfz26_1⟩ := zs2 BK157
    go_wp2
    refine bodyPost_ret (results_cell_row rfl _ _ gb157 27 #[.int .i64 0, .int .i64 0] (0, 0) _ rfl (by (with_reducible repeat (first | refine blk_drewN ?_ _ | refine blk_drew ?_ | refine blk_alloc ?_ _)); refine blk_put (cs := #[.int .i64 0, .int .i64 0]) ?_ 1 _ rfl; (with_reducible repeat (first | refine blk_drewN ?_ _ | refine blk_drew ?_ | refine blk_alloc ?_ _)); refine blk_put (cs := #[.int .i64 0, .int .i64 0]) ?_ 0 _ rfl; (with_reducible repeat (first | refine blk_drewN ?_ _ | refine blk_drew ?_ | refine blk_alloc ?_ _)); exact BK157.out) Try.underlying27 rfl (by kernel_rfl)) rfl ?_
    exact ⟨by first | rfl | (simp [errW_none, errW_some] <;> rfl) | (simp [*, errW_none, errW_some] <;> rfl), by repeat (first | (with_reducible first | exact HB.out | apply below_alloc | apply pw_below_drewN | apply below_drew1 | refine below_set ?_ GE155.out | refine below_set ?_ GE156.out | refine below_set ?_ GE157.out) | exact HB.out)⟩
   ·replace c23 := Bool.eq_false_iff.mpr c23
    subst c23
    have H1 : ((spec_l1least.f kj3 a0_0 a0_1 a0_2 a0_3 a0_4 a2).bind fun t160 => ((spec_l1most.f kj3 a0_0 a0_1 a0_2 a0_3 a0_4 a2).bind fun t161 => ((spec_l1clip.f kj3 (wrap64 (a1_0 + t160)) (wrap64 (a1_1 + t161))).bind fun bt162 => (some (bt162.1, bt162.2))))) = some (r1, r2) := by rw [if_neg (show ¬ (false = true) by decide)] at H; exact H
    clear H
    have H := H1
    clear H1
    replace H := Option.bind_eq_some_iff.mp H
    obtain ⟨t160, A270, H⟩ := H
    replace H : ((spec_l1most.f kj3 a0_0 a0_1 a0_2 a0_3 a0_4 a2).bind fun t161 => ((spec_l1clip.f kj3 (wrap64 (a1_0 + t160)) (wrap64 (a1_1 + t161))).bind fun bt162 => (some (bt162.1, bt162.2)))) = some (r1, r2) := H
    have A27 := Aside0.mk A270
    clear A270
    replace H := Option.bind_eq_some_iff.mp H
    obtain ⟨t161, A280, H⟩ := H
    replace H : ((spec_l1clip.f kj3 (wrap64 (a1_0 + t160)) (wrap64 (a1_1 + t161))).bind fun bt162 => (some (bt162.1, bt162.2))) = some (r1, r2) := H
    have A28 := Aside0.mk A280
    clear A280
    replace H := Option.bind_eq_some_iff.mp H
    obtain ⟨⟨t162, t163⟩, A290, H⟩ := H
    replace H : (some (t162, t163)) = some (r1, r2) := H
    have A29 := Aside0.mk A290
    clear A290
    simp only [Option.some.injEq, Prod.mk.injEq] at H
    obtain ⟨rfl, rfl⟩ := H
    try go_wp2
    have n0_ := Aside0.mk (blk_drew BK155.out)
    have n1_ := Aside0.mk (blk_drew BK156.out)
    have n2_ := Aside0.mk (blk_drew BK157.out)
    have n3_ := Aside0.mk (below_drew1 HB.out)
    clear BK155 BK156 BK157 HB
    have BK155 := n0_
    have BK156 := n1_
    have BK157 := n2_
    have HB := n3_
    clear n0_ n1_ n2_ n3_
    refine start_ (n := 15) (S := fun w' => w'.cell? ⟨gb156, 0, none⟩ = some (.int .i64 a1_0) ∧ w'.cell? ⟨gb156, 1, none⟩ = some (.int .i64 a1_1) ∧ w'.cell? ⟨gb155, 0, none⟩ = some (.int .i64 a0_0) ∧ w'.cell? ⟨gb155, 1, none⟩ = some (.int .i64 a0_1) ∧ w'.cell? ⟨gb155, 2, none⟩ = some (.int .i64 a0_2) ∧ w'.cell? ⟨gb155, 3, none⟩ = some (.int .i64 a0_3) ∧ w'.cell? ⟨gb155, 4, none⟩ = some (.int .i64 a0_4)) (ds := []) #[false, false, false, false, false, false, false, false, false, false, false, false, false, false, false] (by kernel_rfl) rfl rfl ⟨zc BK156 0, zc BK156 1, zc BK155 0, zc BK155 1, zc BK155 2, zc BK155 3, zc BK155 4⟩ (fun hHeld => ?_); refine with_tabW spec_Wheel.tab3 spec_Wheel.bits3 (fun HT_ HW_ => ?_)
    generalize wc.drew = w30 at BK155 BK156 BK157 HB hHeld ⊢
    refine zp 0 17 (zm 15 1) HT_ ?_
    refine zp 3 20 (zm 15 9) HT_ ?_
    refine zp 6 23 (zm 15 73) HT_ ?_
    refine zp 9 26 (zm 15 585) HT_ ?_
    refine zt 1 18 (zm 15 587) HT_ HW_ hHeld ?_
    refine zt 2 19 (zm 15 591) HT_ HW_ hHeld ?_
    refine zt 7 24 (zm 15 719) HT_ HW_ hHeld ?_
    refine zt 8 25 (zm 15 975) HT_ HW_ hHeld ?_
    refine zo 4 (some 21) (zm 15 991) HT_ (fun K hK => ?_)
    refine zG Try.func85 #[.agg #[.int .i64 a0_0, .int .i64 a0_1, .int .i64 a0_2, .int .i64 a0_3, .int .i64 a0_4], .int .i64 a2] ?_
    with_reducible refine (spec_l1least.calls kj3 a0_0 a0_1 a0_2 a0_3 a0_4 a2 t160 _ A27.out).mono ?_
    rintro e w31 ⟨rfl, hb⟩
    refine ⟨_, rfl, ?_⟩
    replace BK155 := zb BK155 hb
    replace BK156 := zb BK156 hb
    replace BK157 := zb BK157 hb
    replace HB := zB HB hb
    (try clear hb)
    refine hK.out _ _ ⟨zc BK156 0, zc BK156 1, zc BK155 0, zc BK155 1, zc BK155 2, zc BK155 3, zc BK155 4⟩ (fun hHeld => ?_)
    clear hK K
    refine zn 21 ?_
    refine zp 5 22 (zm 15 1023) HT_ ?_
    refine zo 10 (some 27) (zm 15 2047) HT_ (fun K hK => ?_)
    refine zG Try.func84 #[.agg #[.int .i64 a0_0, .int .i64 a0_1, .int .i64 a0_2, .int .i64 a0_3, .int .i64 a0_4], .int .i64 a2] ?_
    with_reducible refine (spec_l1most.calls kj3 a0_0 a0_1 a0_2 a0_3 a0_4 a2 t161 _ A28.out).mono ?_
    rintro e w32 ⟨rfl, hb⟩
    refine ⟨_, rfl, ?_⟩
    replace BK155 := zb BK155 hb
    replace BK156 := zb BK156 hb
    replace BK157 := zb BK157 hb
    replace HB := zB HB hb
    (try clear hb)
    refine hK.out _ _ ⟨zc BK156 0, zc BK156 1, zc BK155 0, zc BK155 1, zc BK155 2, zc BK155 3, zc BK155 4⟩ (fun hHeld => ?_)
    clear hK K
    refine zn 27 ?_
    refine zp 11 28 (zm 15 4095) HT_ ?_
    refine zp 12 29 (zm 15 8191) HT_ ?_
    refine zo 13 (some 30) (zm 15 16383) HT_ (fun K hK => ?_)
    refine zG Try.func71 #[.agg #[.int .i64 (wrap64 (a1_0 + t160)), .int .i64 (wrap64 (a1_1 + t161))]] ?_
    with_reducible refine (spec_l1clip.calls kj3 (wrap64 (a1_0 + t160)) (wrap64 (a1_1 + t161)) t162 t163 _ A29.out).mono ?_
    rintro e w33 ⟨rfl, hb⟩
    refine ⟨_, rfl, ?_⟩
    replace BK155 := zb BK155 hb
    replace BK156 := zb BK156 hb
    replace BK157 := zb BK157 hb
    replace HB := zB HB hb
    (try clear hb)
    refine hK.out _ _ ⟨zc BK156 0, zc BK156 1, zc BK155 0, zc BK155 1, zc BK155 2, zc BK155 3, zc BK155 4⟩ (fun hHeld => ?_)
    clear hK K
    refine zn 30 ?_
    refine zo 14 (none) (zm 15 32767) HT_ (fun K hK => ?_)
    have hs34 : w33.cell? ⟨gb157, 0, none⟩ = some (.int .i64 0) := zc BK157 0
    have hfs34 := blk_frozen BK157.out 0
    have hns34_0 := NB155_157.out
    have hns34_1 := NB156_157.out
    have hms34_0 := NB157_155.out
    have hms34_1 := NB157_156.out
    have hs35 : w33.cell? ⟨gb157, 1, none⟩ = some (.int .i64 0) := zc BK157 1
    have hfs35 := blk_frozen BK157.out 1
    have hns35_0 := NB155_157.out
    have hns35_1 := NB156_157.out
    have hms35_0 := NB157_155.out
    have hms35_1 := NB157_156.out
    refine skip_ (w1 := ?_) (by rfl) rfl ?_ ?_
    rotate_left
    ·go_simp
     rfl
    refine hK.out _ _ ⟨((cell_far (p := ⟨gb157, _, none⟩) NB156_157.out _).trans (((cell_far (p := ⟨gb157, _, none⟩) NB156_157.out _).trans (hHeld.1)))), ((cell_far (p := ⟨gb157, _, none⟩) NB156_157.out _).trans (((cell_far (p := ⟨gb157, _, none⟩) NB156_157.out _).trans (hHeld.2.1)))), ((cell_far (p := ⟨gb157, _, none⟩) NB155_157.out _).trans (((cell_far (p := ⟨gb157, _, none⟩) NB155_157.out _).trans (hHeld.2.2.1)))), ((cell_far (p := ⟨gb157, _, none⟩) NB155_157.out _).trans (((cell_far (p := ⟨gb157, _, none⟩) NB155_157.out _).trans (hHeld.2.2.2.1)))), ((cell_far (p := ⟨gb157, _, none⟩) NB155_157.out _).trans (((cell_far (p := ⟨gb157, _, none⟩) NB155_157.out _).trans (hHeld.2.2.2.2.1)))), ((cell_far (p := ⟨gb157, _, none⟩) NB155_157.out _).trans (((cell_far (p := ⟨gb157, _, none⟩) NB155_157.out _).trans (hHeld.2.2.2.2.2.1)))), ((cell_far (p := ⟨gb157, _, none⟩) NB155_157.out _).trans (((cell_far (p := ⟨gb157, _, none⟩) NB155_157.out _).trans (hHeld.2.2.2.2.2.2))))⟩ (fun hHeld => ?_)
    clear hK K
    refine done_ (done_of HT_.out (by kernel_rfl)) ?_
    try go_wp2
    refine bodyPost_ret (results_cell_row rfl _ _ gb157 27 #[.int .i64 t162, .int .i64 t163] (0, 0) _ rfl (by (with_reducible repeat (first | refine blk_drewN ?_ _ | refine blk_drew ?_ | refine blk_alloc ?_ _)); refine blk_put (cs := #[.int .i64 t162, .int .i64 0]) ?_ 1 _ rfl; (with_reducible repeat (first | refine blk_drewN ?_ _ | refine blk_drew ?_ | refine blk_alloc ?_ _)); refine blk_put (cs := #[.int .i64 0, .int .i64 0]) ?_ 0 _ rfl; (with_reducible repeat (first | refine blk_drewN ?_ _ | refine blk_drew ?_ | refine blk_alloc ?_ _)); exact BK157.out) Try.underlying27 rfl (by kernel_rfl)) rfl ?_
    exact ⟨by first | rfl | (simp [errW_none, errW_some] <;> rfl) | (simp [*, errW_none, errW_some] <;> rfl), by repeat (first | (with_reducible first | exact HB.out | apply below_alloc | apply pw_below_drewN | apply below_drew1 | refine below_set ?_ GE155.out | refine below_set ?_ GE156.out | refine below_set ?_ GE157.out) | exact HB.out)⟩

/-! ### spec_Meets: function 72 -/
def spec_Meets.f (a0_0 : Int) (a0_1 : Int) (a1_0 : Int) (a1_1 : Int) : Option (Bool) := if a0_0 ≤ a1_1 then (some (decide (a1_0 ≤ a0_1))) else (some false)
set_option maxHeartbeats 8000000 in
set_option maxRecDepth 100000 in
theorem spec_Meets.calls (a0_0 : Int) (a0_1 : Int) (a1_0 : Int) (a1_1 : Int) (r : Bool) (w : World) (h : spec_Meets.f a0_0 a0_1 a1_0 a1_1 = some r) :
  Calls Try.prog 72 #[.agg #[.int .i64 a0_0, .int .i64 a0_1], .agg #[.int .i64 a1_0, .int .i64 a1_1]] w fun e w' => e = .returned (.bool r) ∧ Below w.heap.size w w' := by
 have hu27 := Try.underlying27
 have HB := Aside0.mk (Below.refl w.heap.size w)
 have H : (if a0_0 ≤ a1_1 then (some (decide (a1_0 ≤ a0_1))) else (some false)) = some r := h
 clear h
 by_cases c3 : a0_0 ≤ a1_1
 ·rw [if_pos c3] at H
  have c3b0 : decide (a0_0 ≤ a1_1) = true := decide_eq_true c3
  clear c3
  obtain rfl := Option.some.inj H
  go_enter Try.func72, Try.ntmps72
  go_wp2_with (first | ((with_reducible refine gate_dst (N := 2) rfl ?_); refine zx 2 #[.int .i64 a0_0, .int .i64 a0_1] 27 ?_; intro gb164 hg w4 hbox hb; have BK164 := Aside0.mk (hbox); have GW164 := zge HB hg; have GE164 := GW164; replace HB := zB HB hb; clear hb hbox hg) | ((with_reducible refine gate_dst (N := 3) rfl ?_); refine zx 3 #[.int .i64 a1_0, .int .i64 a1_1] 27 ?_; intro gb165 hg w5 hbox hb; have BK165 := Aside0.mk (hbox); have GW165 := zge HB hg; have GE165 := GW165; have NB164_165 := zl BK164 hg; have NB165_164 := zg BK164 hg; replace BK164 := zb BK164 hb; replace HB := zB HB hb; clear hb hbox hg; have hnb6 := NB164_165.out; have hnc6 := NB165_164.out; obtain ⟨hcz7_0, hcz7_1, hfz7_0, hfz7_1⟩ := zs2 BK164; obtain ⟨hcz8_0, hcz8_1, hfz8_0, hfz8_1⟩ := zs2 BK165))
  go_ret
  exact ⟨by first | rfl | (simp [errW_none, errW_some] <;> rfl) | (simp [*, errW_none, errW_some] <;> rfl), by repeat (first | (with_reducible first | exact HB.out | apply below_alloc | apply pw_below_drewN | apply below_drew1 | refine below_set ?_ GE164.out | refine below_set ?_ GE165.out) | exact HB.out)⟩
 ·rw [if_neg c3] at H
  have c3b0 : decide (a0_0 ≤ a1_1) = false := decide_eq_false c3
  clear c3
  obtain rfl := Option.some.inj H
  go_enter Try.func72, Try.ntmps72
  go_wp2_with (first | ((with_reducible refine gate_dst (N := 2) rfl ?_); refine zx 2 #[.int .i64 a0_0, .int .i64 a0_1] 27 ?_; intro gb164 hg w9 hbox hb; have BK164 := Aside0.mk (hbox); have GW164 := zge HB hg; have GE164 := GW164; replace HB := zB HB hb; clear hb hbox hg) | ((with_reducible refine gate_dst (N := 3) rfl ?_); refine zx 3 #[.int .i64 a1_0, .int .i64 a1_1] 27 ?_; intro gb165 hg w10 hbox hb; have BK165 := Aside0.mk (hbox); have GW165 := zge HB hg; have GE165 := GW165; have NB164_165 := zl BK164 hg; have NB165_164 := zg BK164 hg; replace BK164 := zb BK164 hb; replace HB := zB HB hb; clear hb hbox hg; have hnb11 := NB164_165.out; have hnc11 := NB165_164.out; obtain ⟨hcz12_0, hcz12_1, hfz12_0, hfz12_1⟩ := zs2 BK164; obtain ⟨hcz13_0, hcz13_1, hfz13_0, hfz13_1⟩ := zs2 BK165))
  go_ret
  exact ⟨by first | rfl | (simp [errW_none, errW_some] <;> rfl) | (simp [*, errW_none, errW_some] <;> rfl), by repeat (first | (with_reducible first | exact HB.out | apply below_alloc | apply pw_below_drewN | apply below_drew1 | refine below_set ?_ GE164.out | refine below_set ?_ GE165.out) | exact HB.out)⟩

/-! ### spec_Both: function 98 -/
def spec_Both.f (a0_0 : Int) (a0_1 : Int) (a1_0 : Int) (a1_1 : Int) : Option (Int × Int) := (spec_Meets.f a0_0 a0_1 a1_0 a1_1).bind fun t169 => (if t169 = true then (if a1_0 > a0_0 then (if a1_1 < a0_1 then (some (a1_0, a1_1)) else (some (a1_0, a0_1))) else (if a1_1 < a0_1 then (some (a0_0, a1_1)) else (some (a0_0, a0_1)))) else (some (0, 0)))
set_option maxHeartbeats 8000000 in
set_option maxRecDepth 100000 in
theorem spec_Both.calls (a0_0 : Int) (a0_1 : Int) (a1_0 : Int) (a1_1 : Int) (r1 : Int) (r2 : Int) (w : World) (h : spec_Both.f a0_0 a0_1 a1_0 a1_1 = some (r1, r2)) :
  Calls Try.prog 98 #[.agg #[.int .i64 a0_0, .int .i64 a0_1], .agg #[.int .i64 a1_0, .int .i64 a1_1]] w fun e w' => e = .returned (.agg #[.int .i64 r1, .int .i64 r2]) ∧ Below w.heap.size w w' := by
 have hu27 := Try.underlying27
 have HB := Aside0.mk (Below.refl w.heap.size w)
 have H : ((spec_Meets.f a0_0 a0_1 a1_0 a1_1).bind fun t169 => (if t169 = true then (if a1_0 > a0_0 then (if a1_1 < a0_1 then (some (a1_0, a1_1)) else (some (a1_0, a0_1))) else (if a1_1 < a0_1 then (some (a0_0, a1_1)) else (some (a0_0, a0_1)))) else (some (0, 0)))) = some (r1, r2) := h
 clear h
 replace H := Option.bind_eq_some_iff.mp H
 obtain ⟨t169, A30, H⟩ := H
 replace H : (if t169 = true then (if a1_0 > a0_0 then (if a1_1 < a0_1 then (some (a1_0, a1_1)) else (some (a1_0, a0_1))) else (if a1_1 < a0_1 then (some (a0_0, a1_1)) else (some (a0_0, a0_1)))) else (some (0, 0))) = some (r1, r2) := H
 have A3 := Aside0.mk A30
 clear A30
 by_cases c4 : t169 = true
 ·subst c4
  have H1 : (if a1_0 > a0_0 then (if a1_1 < a0_1 then (some (a1_0, a1_1)) else (some (a1_0, a0_1))) else (if a1_1 < a0_1 then (some (a0_0, a1_1)) else (some (a0_0, a0_1)))) = some (r1, r2) := by rw [if_pos rfl] at H; exact H
  clear H
  have H := H1
  clear H1
  by_cases c5 : a1_0 > a0_0
  ·rw [if_pos c5] at H
   have c5b0 : decide (a0_0 < a1_0) = true := decide_eq_true c5
   clear c5
   by_cases c6 : a1_1 < a0_1
   ·rw [if_pos c6] at H
    have c6b0 : decide (a1_1 < a0_1) = true := decide_eq_true c6
    clear c6
    simp only [Option.some.injEq, Prod.mk.injEq] at H
    obtain ⟨rfl, rfl⟩ := H
    go_enter Try.func98, Try.ntmps98
    go_wp2_with (first | ((with_reducible refine gate_dst (N := 2) rfl ?_); refine zx 2 #[.int .i64 a0_0, .int .i64 a0_1] 27 ?_; intro gb166 hg w7 hbox hb; have BK166 := Aside0.mk (hbox); have GW166 := zge HB hg; have GE166 := GW166; replace HB := zB HB hb; clear hb hbox hg) | ((with_reducible refine gate_dst (N := 3) rfl ?_); refine zx 3 #[.int .i64 a1_0, .int .i64 a1_1] 27 ?_; intro gb167 hg w8 hbox hb; have BK167 := Aside0.mk (hbox); have GW167 := zge HB hg; have GE167 := GW167; have NB166_167 := zl BK166 hg; have NB167_166 := zg BK166 hg; replace BK166 := zb BK166 hb; replace HB := zB HB hb; clear hb hbox hg) | ((with_reducible refine gate_dst (N := 4) rfl ?_); refine zx 4 #[.int .i64 0, .int .i64 0] 27 ?_; intro gb168 hg w9 hbox hb; have BK168 := Aside0.mk (hbox); have GW168 := zge HB hg; have GE168 := GW168; have NB166_168 := zl BK166 hg; have NB168_166 := zg BK166 hg; have NB167_168 := zl BK167 hg; have NB168_167 := zg BK167 hg; replace BK166 := zb BK166 hb; replace BK167 := zb BK167 hb; replace HB := zB HB hb; clear hb hbox hg; have hnb10 := NB166_167.out; have hnc10 := NB167_166.out; have hnb11 := NB166_168.out; have hnc11 := NB168_166.out; obtain ⟨hcz12_0, hcz12_1, hfz12_0, hfz12_1⟩ := zs2 BK166; have hnb13 := NB167_168.out; have hnc13 := NB168_167.out; obtain ⟨hcz14_0, hcz14_1, hfz14_0, hfz14_1⟩ := zs2 BK167) | ((with_reducible refine gate_callee (f := 72) rfl ?_); refine zL (some 7) Try.func72 #[.agg #[.int .i64 a0_0, .int .i64 a0_1], .agg #[.int .i64 a1_0, .int .i64 a1_1]] ?_; (with_reducible refine (spec_Meets.calls a0_0 a0_1 a1_0 a1_1 true _ A3.out).mono ?_); rintro e w15 ⟨rfl, hb⟩; refine ⟨_, rfl, ?_⟩; replace BK166 := zb BK166 hb; replace BK167 := zb BK167 hb; replace BK168 := zb BK168 hb; replace HB := zB HB hb; (try clear hb); obtain ⟨hcz16_0, hcz16_1, hfz16_0, hfz16_1⟩ := zs2 BK167; obtain ⟨hcz17_0, hcz17_1, hfz17_0, hfz17_1⟩ := zs2 BK166; obtain ⟨hcz18_0, hcz18_1, hfz18_0, hfz18_1⟩ := zs2 BK168))
    refine bodyPost_ret (results_cell_row rfl _ _ gb168 27 #[.int .i64 a1_0, .int .i64 a1_1] (0, 0) _ rfl (by (with_reducible repeat (first | refine blk_drewN ?_ _ | refine blk_drew ?_ | refine blk_alloc ?_ _)); refine blk_put (cs := #[.int .i64 a1_0, .int .i64 0]) ?_ 1 _ rfl; (with_reducible repeat (first | refine blk_drewN ?_ _ | refine blk_drew ?_ | refine blk_alloc ?_ _)); refine blk_put (cs := #[.int .i64 0, .int .i64 0]) ?_ 0 _ rfl; (with_reducible repeat (first | refine blk_drewN ?_ _ | refine blk_drew ?_ | refine blk_alloc ?_ _)); refine blk_far ?_ NB168_166.out _; (with_reducible repeat (first | refine blk_drewN ?_ _ | refine blk_drew ?_ | refine blk_alloc ?_ _)); refine blk_far ?_ NB168_166.out _; (with_reducible repeat (first | refine blk_drewN ?_ _ | refine blk_drew ?_ | refine blk_alloc ?_ _)); exact BK168.out) Try.underlying27 rfl (by kernel_rfl)) rfl ?_
    exact ⟨by first | rfl | (simp [errW_none, errW_some] <;> rfl) | (simp [*, errW_none, errW_some] <;> rfl), by repeat (first | (with_reducible first | exact HB.out | apply below_alloc | apply pw_below_drewN | apply below_drew1 | refine below_set ?_ GE166.out | refine below_set ?_ GE167.out | refine below_set ?_ GE168.out) | exact HB.out)⟩
   ·rw [if_neg c6] at H
    have c6b0 : decide (a1_1 < a0_1) = false := decide_eq_false c6
    clear c6
    simp only [Option.some.injEq, Prod.mk.injEq] at H
    obtain ⟨rfl, rfl⟩ := H
    go_enter Try.func98, Try.ntmps98
    go_wp2_with (first | ((with_reducible refine gate_dst (N := 2) rfl ?_); refine zx 2 #[.int .i64 a0_0, .int .i64 a0_1] 27 ?_; intro gb166 hg w19 hbox hb; have BK166 := Aside0.mk (hbox); have GW166 := zge HB hg; have GE166 := GW166; replace HB := zB HB hb; clear hb hbox hg) | ((with_reducible refine gate_dst (N := 3) rfl ?_); refine zx 3 #[.int .i64 a1_0, .int .i64 a1_1] 27 ?_; intro gb167 hg w20 hbox hb; have BK167 := Aside0.mk (hbox); have GW167 := zge HB hg; have GE167 := GW167; have NB166_167 := zl BK166 hg; have NB167_166 := zg BK166 hg; replace BK166 := zb BK166 hb; replace HB := zB HB hb; clear hb hbox hg) | ((with_reducible refine gate_dst (N := 4) rfl ?_); refine zx 4 #[.int .i64 0, .int .i64 0] 27 ?_; intro gb168 hg w21 hbox hb; have BK168 := Aside0.mk (hbox); have GW168 := zge HB hg; have GE168 := GW168; have NB166_168 := zl BK166 hg; have NB168_166 := zg BK166 hg; have NB167_168 := zl BK167 hg; have NB168_167 := zg BK167 hg; replace BK166 := zb BK166 hb; replace BK167 := zb BK167 hb; replace HB := zB HB hb; clear hb hbox hg; have hnb22 := NB166_167.out; have hnc22 := NB167_166.out; have hnb23 := NB166_168.out; have hnc23 := NB168_166.out; obtain ⟨hcz24_0, hcz24_1, hfz24_0, hfz24_1⟩ := zs2 BK166; have hnb25 := NB167_168.out; have hnc25 := NB168_167.out; obtain ⟨hcz26_0, hcz26_1, hfz26_0, hfz26_1⟩ := zs2 BK167) | ((with_reducible refine gate_callee (f := 72) rfl ?_); refine zL (some 7) Try.func72 #[.agg #[.int .i64 a0_0, .int .i64 a0_1], .agg #[.int .i64 a1_0, .int .i64 a1_1]] ?_; (with_reducible refine (spec_Meets.calls a0_0 a0_1 a1_0 a1_1 true _ A3.out).mono ?_); rintro e w27 ⟨rfl, hb⟩; refine ⟨_, rfl, ?_⟩; replace BK166 := zb BK166 hb; replace BK167 := zb BK167 hb; replace BK168 := zb BK168 hb; replace HB := zB HB hb; (try clear hb); obtain ⟨hcz28_0, hcz28_1, hfz28_0, hfz28_1⟩ := zs2 BK167; obtain ⟨hcz29_0, hcz29_1, hfz29_0, hfz29_1⟩ := zs2 BK166; obtain ⟨hcz30_0, hcz30_1, hfz30_0, hfz30_1⟩ := zs2 BK168))
    refine bodyPost_ret (results_cell_row rfl _ _ gb168 27 #[.int .i64 a1_0, .int .i64 a0_1] (0, 0) _ rfl (by (with_reducible repeat (first | refine blk_drewN ?_ _ | refine blk_drew ?_ | refine blk_alloc ?_ _)); refine blk_put (cs := #[.int .i64 a1_0, .int .i64 0]) ?_ 1 _ rfl; (with_reducible repeat (first | refine blk_drewN ?_ _ | refine blk_drew ?_ | refine blk_alloc ?_ _)); refine blk_put (cs := #[.int .i64 0, .int .i64 0]) ?_ 0 _ rfl; (with_reducible repeat (first | refine blk_drewN ?_ _ | refine blk_drew ?_ | refine blk_alloc ?_ _)); refine blk_far ?_ NB168_166.out _; (with_reducible repeat (first | refine blk_drewN ?_ _ | refine blk_drew ?_ | refine blk_alloc ?_ _)); exact BK168.out) Try.underlying27 rfl (by kernel_rfl)) rfl ?_
    exact ⟨by first | rfl | (simp [errW_none, errW_some] <;> rfl) | (simp [*, errW_none, errW_some] <;> rfl), by repeat (first | (with_reducible first | exact HB.out | apply below_alloc | apply pw_below_drewN | apply below_drew1 | refine below_set ?_ GE166.out | refine below_set ?_ GE167.out | refine below_set ?_ GE168.out) | exact HB.out)⟩
  ·rw [if_neg c5] at H
   have c5b0 : decide (a0_0 < a1_0) = false := decide_eq_false c5
   clear c5
   by_cases c31 : a1_1 < a0_1
   ·rw [if_pos c31] at H
    have c31b0 : decide (a1_1 < a0_1) = true := decide_eq_true c31
    clear c31
    simp only [Option.some.injEq, Prod.mk.injEq] at H
    obtain ⟨rfl, rfl⟩ := H
    go_enter Try.func98, Try.ntmps98
    go_wp2_with (first | ((with_reducible refine gate_dst (N := 2) rfl ?_); refine zx 2 #[.int .i64 a0_0, .int .i64 a0_1] 27 ?_; intro gb166 hg w32 hbox hb; have BK166 := Aside0.mk (hbox); have GW166 := zge HB hg; have GE166 := GW166; replace HB := zB HB hb; clear hb hbox hg) | ((with_reducible refine gate_dst (N := 3) rfl ?_); refine zx 3 #[.int .i64 a1_0, .int .i64 a1_1] 27 ?_; intro gb167 hg w33 hbox hb; have BK167 := Aside0.mk (hbox); have GW167 := zge HB hg; have GE167 := GW167; have NB166_167 := zl BK166 hg; have NB167_166 := zg BK166 hg; replace BK166 := zb BK166 hb; replace HB := zB HB hb; clear hb hbox hg) | ((with_reducible refine gate_dst (N := 4) rfl ?_); refine zx 4 #[.int .i64 0, .int .i64 0] 27 ?_; intro gb168 hg w34 hbox hb; have BK168 := Aside0.mk (hbox); have GW168 := zge HB hg; have GE168 := GW168; have NB166_168 := zl BK166 hg; have NB168_166 := zg BK166 hg; have NB167_168 := zl BK167 hg; have NB168_167 := zg BK167 hg; replace BK166 := zb BK166 hb; replace BK167 := zb BK167 hb; replace HB := zB HB hb; clear hb hbox hg; have hnb35 := NB166_167.out; have hnc35 := NB167_166.out; have hnb36 := NB166_168.out; have hnc36 := NB168_166.out; obtain ⟨hcz37_0, hcz37_1, hfz37_0, hfz37_1⟩ := zs2 BK166; have hnb38 := NB167_168.out; have hnc38 := NB168_167.out; obtain ⟨hcz39_0, hcz39_1, hfz39_0, hfz39_1⟩ := zs2 BK167) | ((with_reducible refine gate_callee (f := 72) rfl ?_); refine zL (some 7) Try.func72 #[.agg #[.int .i64 a0_0, .int .i64 a0_1], .agg #[.int .i64 a1_0, .int .i64 a1_1]] ?_; (with_reducible refine (spec_Meets.calls a0_0 a0_1 a1_0 a1_1 true _ A3.out).mono ?_); rintro e w40 ⟨rfl, hb⟩; refine ⟨_, rfl, ?_⟩; replace BK166 := zb BK166 hb; replace BK167 := zb BK167 hb; replace BK168 := zb BK168 hb; replace HB := zB HB hb; (try clear hb); obtain ⟨hcz41_0, hcz41_1, hfz41_0, hfz41_1⟩ := zs2 BK167; obtain ⟨hcz42_0, hcz42_1, hfz42_0, hfz42_1⟩ := zs2 BK166; obtain ⟨hcz43_0, hcz43_1, hfz43_0, hfz43_1⟩ := zs2 BK168))
    refine bodyPost_ret (results_cell_row rfl _ _ gb168 27 #[.int .i64 a0_0, .int .i64 a1_1] (0, 0) _ rfl (by (with_reducible repeat (first | refine blk_drewN ?_ _ | refine blk_drew ?_ | refine blk_alloc ?_ _)); refine blk_put (cs := #[.int .i64 a0_0, .int .i64 0]) ?_ 1 _ rfl; (with_reducible repeat (first | refine blk_drewN ?_ _ | refine blk_drew ?_ | refine blk_alloc ?_ _)); refine blk_put (cs := #[.int .i64 0, .int .i64 0]) ?_ 0 _ rfl; (with_reducible repeat (first | refine blk_drewN ?_ _ | refine blk_drew ?_ | refine blk_alloc ?_ _)); refine blk_far ?_ NB168_166.out _; (with_reducible repeat (first | refine blk_drewN ?_ _ | refine blk_drew ?_ | refine blk_alloc ?_ _)); exact BK168.out) Try.underlying27 rfl (by kernel_rfl)) rfl ?_
    exact ⟨by first | rfl | (simp [errW_none, errW_some] <;> rfl) | (simp [*, errW_none, errW_some] <;> rfl), by repeat (first | (with_reducible first | exact HB.out | apply below_alloc | apply pw_below_drewN | apply below_drew1 | refine below_set ?_ GE166.out | refine below_set ?_ GE167.out | refine below_set ?_ GE168.out) | exact HB.out)⟩
   ·rw [if_neg c31] at H
    have c31b0 : decide (a1_1 < a0_1) = false := decide_eq_false c31
    clear c31
    simp only [Option.some.injEq, Prod.mk.injEq] at H
    obtain ⟨rfl, rfl⟩ := H
    go_enter Try.func98, Try.ntmps98
    go_wp2_with (first | ((with_reducible refine gate_dst (N := 2) rfl ?_); refine zx 2 #[.int .i64 a0_0, .int .i64 a0_1] 27 ?_; intro gb166 hg w44 hbox hb; have BK166 := Aside0.mk (hbox); have GW166 := zge HB hg; have GE166 := GW166; replace HB := zB HB hb; clear hb hbox hg) | ((with_reducible refine gate_dst (N := 3) rfl ?_); refine zx 3 #[.int .i64 a1_0, .int .i64 a1_1] 27 ?_; intro gb167 hg w45 hbox hb; have BK167 := Aside0.mk (hbox); have GW167 := zge HB hg; have GE167 := GW167; have NB166_167 := zl BK166 hg; have NB167_166 := zg BK166 hg; replace BK166 := zb BK166 hb; replace HB := zB HB hb; clear hb hbox hg) | ((with_reducible refine gate_dst (N := 4) rfl ?_); refine zx 4 #[.int .i64 0, .int .i64 0] 27 ?_; intro gb168 hg w46 hbox hb; have BK168 := Aside0.mk (hbox); have GW168 := zge HB hg; have GE168 := GW168; have NB166_168 := zl BK166 hg; have NB168_166 := zg BK166 hg; have NB167_168 := zl BK167 hg; have NB168_167 := zg BK167 hg; replace BK166 := zb BK166 hb; replace BK167 := zb BK167 hb; replace HB := zB HB hb; clear hb hbox hg; have hnb47 := NB166_167.out; have hnc47 := NB167_166.out; have hnb48 := NB166_168.out; have hnc48 := NB168_166.out; obtain ⟨hcz49_0, hcz49_1, hfz49_0, hfz49_1⟩ := zs2 BK166; have hnb50 := NB167_168.out; have hnc50 := NB168_167.out; obtain ⟨hcz51_0, hcz51_1, hfz51_0, hfz51_1⟩ := zs2 BK167) | ((with_reducible refine gate_callee (f := 72) rfl ?_); refine zL (some 7) Try.func72 #[.agg #[.int .i64 a0_0, .int .i64 a0_1], .agg #[.int .i64 a1_0, .int .i64 a1_1]] ?_; (with_reducible refine (spec_Meets.calls a0_0 a0_1 a1_0 a1_1 true _ A3.out).mono ?_); rintro e w52 ⟨rfl, hb⟩; refine ⟨_, rfl, ?_⟩; replace BK166 := zb BK166 hb; replace BK167 := zb BK167 hb; replace BK168 := zb BK168 hb; replace HB := zB HB hb; (try clear hb); obtain ⟨hcz53_0, hcz53_1, hfz53_0, hfz53_1⟩ := zs2 BK167; obtain ⟨hcz54_0, hcz54_1, hfz54_0, hfz54_1⟩ := zs2 BK166; obtain ⟨hcz55_0, hcz55_1, hfz55_0, hfz55_1⟩ := zs2 BK168))
    refine bodyPost_ret (results_cell_row rfl _ _ gb168 27 #[.int .i64 a0_0, .int .i64 a0_1] (0, 0) _ rfl (by (with_reducible repeat (first | refine blk_drewN ?_ _ | refine blk_drew ?_ | refine blk_alloc ?_ _)); refine blk_put (cs := #[.int .i64 a0_0, .int .i64 0]) ?_ 1 _ rfl; (with_reducible repeat (first | refine blk_drewN ?_ _ | refine blk_drew ?_ | refine blk_alloc ?_ _)); refine blk_put (cs := #[.int .i64 0, .int .i64 0]) ?_ 0 _ rfl; (with_reducible repeat (first | refine blk_drewN ?_ _ | refine blk_drew ?_ | refine blk_alloc ?_ _)); exact BK168.out) Try.underlying27 rfl (by kernel_rfl)) rfl ?_
    exact ⟨by first | rfl | (simp [errW_none, errW_some] <;> rfl) | (simp [*, errW_none, errW_some] <;> rfl), by repeat (first | (with_reducible first | exact HB.out | apply below_alloc | apply pw_below_drewN | apply below_drew1 | refine below_set ?_ GE166.out | refine below_set ?_ GE167.out | refine below_set ?_ GE168.out) | exact HB.out)⟩
 ·replace c4 := Bool.eq_false_iff.mpr c4
  subst c4
  have H1 : (some (0, 0)) = some (r1, r2) := by rw [if_neg (show ¬ (false = true) by decide)] at H; exact H
  clear H
  have H := H1
  clear H1
  simp only [Option.some.injEq, Prod.mk.injEq] at H
  obtain ⟨rfl, rfl⟩ := H
  go_enter Try.func98, Try.ntmps98
  go_wp2_with (first | ((with_reducible refine gate_dst (N := 2) rfl ?_); refine zx 2 #[.int .i64 a0_0, .int .i64 a0_1] 27 ?_; intro gb166 hg w56 hbox hb; have BK166 := Aside0.mk (hbox); have GW166 := zge HB hg; have GE166 := GW166; replace HB := zB HB hb; clear hb hbox hg) | ((with_reducible refine gate_dst (N := 3) rfl ?_); refine zx 3 #[.int .i64 a1_0, .int .i64 a1_1] 27 ?_; intro gb167 hg w57 hbox hb; have BK167 := Aside0.mk (hbox); have GW167 := zge HB hg; have GE167 := GW167; have NB166_167 := zl BK166 hg; have NB167_166 := zg BK166 hg; replace BK166 := zb BK166 hb; replace HB := zB HB hb; clear hb hbox hg) | ((with_reducible refine gate_dst (N := 4) rfl ?_); refine zx 4 #[.int .i64 0, .int .i64 0] 27 ?_; intro gb168 hg w58 hbox hb; have BK168 := Aside0.mk (hbox); have GW168 := zge HB hg; have GE168 := GW168; have NB166_168 := zl BK166 hg; have NB168_166 := zg BK166 hg; have NB167_168 := zl BK167 hg; have NB168_167 := zg BK167 hg; replace BK166 := zb BK166 hb; replace BK167 := zb BK167 hb; replace HB := zB HB hb; clear hb hbox hg; have hnb59 := NB166_167.out; have hnc59 := NB167_166.out; have hnb60 := NB166_168.out; have hnc60 := NB168_166.out; obtain ⟨hcz61_0, hcz61_1, hfz61_0, hfz61_1⟩ := zs2 BK166; have hnb62 := NB167_168.out; have hnc62 := NB168_167.out; obtain ⟨hcz63_0, hcz63_1, hfz63_0, hfz63_1⟩ := zs2 BK167) | ((with_reducible refine gate_callee (f := 72) rfl ?_); refine zL (some 7) Try.func72 #[.agg #[.int .i64 a0_0, .int .i64 a0_1], .agg #[.int .i64 a1_0, .int .i64 a1_1]] ?_; (with_reducible refine (spec_Meets.calls a0_0 a0_1 a1_0 a1_1 false _ A3.out).mono ?_); rintro e w64 ⟨rfl, hb⟩; refine ⟨_, rfl, ?_⟩; replace BK166 := zb BK166 hb; replace BK167 := zb BK167 hb; replace BK168 := zb BK168 hb; replace HB := zB HB hb; (try clear hb); obtain ⟨hcz65_0, hcz65_1, hfz65_0, hfz65_1⟩ := zs2 BK168))
  refine bodyPost_ret (results_cell_row rfl _ _ gb168 27 #[.int .i64 0, .int .i64 0] (0, 0) _ rfl (by (with_reducible repeat (first | refine blk_drewN ?_ _ | refine blk_drew ?_ | refine blk_alloc ?_ _)); refine blk_put (cs := #[.int .i64 0, .int .i64 0]) ?_ 1 _ rfl; (with_reducible repeat (first | refine blk_drewN ?_ _ | refine blk_drew ?_ | refine blk_alloc ?_ _)); refine blk_put (cs := #[.int .i64 0, .int .i64 0]) ?_ 0 _ rfl; (with_reducible repeat (first | refine blk_drewN ?_ _ | refine blk_drew ?_ | refine blk_alloc ?_ _)); exact BK168.out) Try.underlying27 rfl (by kernel_rfl)) rfl ?_
  exact ⟨by first | rfl | (simp [errW_none, errW_some] <;> rfl) | (simp [*, errW_none, errW_some] <;> rfl), by repeat (first | (with_reducible first | exact HB.out | apply below_alloc | apply pw_below_drewN | apply below_drew1 | refine below_set ?_ GE166.out | refine below_set ?_ GE167.out | refine below_set ?_ GE168.out) | exact HB.out)⟩

/-! ### spec_Read: function 73 -/
def spec_Read.j0 : Nat → Int → Bool → Int → Int → Int → Int → Int → Int → Int → Option (Int × Int)
 | 0, _, _, _, _, _, _, _, _, _ => none
 | k + 1, x2, x16, x171000, x171001, x171002, x171003, x171004, x172000, x172001 => if x16 = true then (some (0, 0)) else ((spec_l1clip.f k (wrap64 (x2 - x171002)) (wrap64 (x2 + x171002))).bind fun bt175 => ((spec_Meets.f x172000 x172001 bt175.1 bt175.2).bind fun t178 => (if t178 = true then ((spec_Both.f x172000 x172001 bt175.1 bt175.2).bind fun bt179 => (some (bt179.1, bt179.2))) else (if bt175.1 < x172000 then (if bt175.2 > x172001 then (some (bt175.1, bt175.2)) else (some (bt175.1, x172001))) else (if bt175.2 > x172001 then (some (x172000, bt175.2)) else (some (x172000, x172001)))))))
def spec_Read.f (k : Nat) (a0_0 : Int) (a0_1 : Int) (a0_2 : Int) (a0_3 : Int) (a0_4 : Int) (a1_0 : Int) (a1_1 : Int) (a2 : Int) : Option (Int × Int) := (spec_l1good.f a0_0 a0_1 a0_2 a0_3 a0_4 a1_0 a1_1).bind fun t173 => (if t173 = true then ((spec_l1in.f a2 0 100000000).bind fun t174 => (spec_Read.j0 k a2 (!t174) a0_0 a0_1 a0_2 a0_3 a0_4 a1_0 a1_1)) else (spec_Read.j0 k a2 true a0_0 a0_1 a0_2 a0_3 a0_4 a1_0 a1_1))
theorem spec_Read.mono_l : ∀ k, (∀ y0 y1 y2 y3 y4 y5 y6 y7 y8, LeO (spec_Read.j0 k y0 y1 y2 y3 y4 y5 y6 y7 y8) (spec_Read.j0 (k + 1) y0 y1 y2 y3 y4 y5 y6 y7 y8))
 | 0 => fun _ _ _ _ _ _ _ _ _ r h => by simp [spec_Read.j0] at h
 | k + 1 => by
  have ih0 := spec_Read.mono_l k
  ·intro y0 y1 y2 y3 y4 y5 y6 y7 y8
   unfold spec_Read.j0
   repeat' first
   | (with_reducible exact ih0 _ _ _ _ _ _ _ _ _)
   | (with_reducible exact spec_l1clip.mono _ _ _)
   | (with_reducible exact LeO.refl _)
   | (with_reducible exact LeO.none _)
   | (with_reducible refine LeO.ite ?_ ?_)
   | (with_reducible refine LeO.bind ?_ (fun _ => ?_))
   | exact ih0 _ _ _ _ _ _ _ _ _
   | exact spec_l1clip.mono _ _ _
   | exact LeO.none _
   | refine LeO.ite ?_ ?_
   | refine LeO.bind ?_ (fun _ => ?_)
theorem spec_Read.mono : ∀ a0 a1 a2 a3 a4 a5 a6 a7 k, LeO (spec_Read.f k a0 a1 a2 a3 a4 a5 a6 a7) (spec_Read.f (k + 1) a0 a1 a2 a3 a4 a5 a6 a7) := by
 intro a0 a1 a2 a3 a4 a5 a6 a7 k
 have ih0 := spec_Read.mono_l k
 unfold spec_Read.f
 repeat' first
   | (with_reducible exact ih0 _ _ _ _ _ _ _ _ _)
   | (with_reducible exact spec_l1clip.mono _ _ _)
   | (with_reducible exact LeO.refl _)
   | (with_reducible exact LeO.none _)
   | (with_reducible refine LeO.ite ?_ ?_)
   | (with_reducible refine LeO.bind ?_ (fun _ => ?_))
   | exact ih0 _ _ _ _ _ _ _ _ _
   | exact spec_l1clip.mono _ _ _
   | exact LeO.none _
   | refine LeO.ite ?_ ?_
   | refine LeO.bind ?_ (fun _ => ?_)
set_option maxHeartbeats 8000000 in
set_option maxRecDepth 100000 in
theorem spec_Read.calls (k : Nat) (a0_0 : Int) (a0_1 : Int) (a0_2 : Int) (a0_3 : Int) (a0_4 : Int) (a1_0 : Int) (a1_1 : Int) (a2 : Int) (r1 : Int) (r2 : Int) (w : World) (h : spec_Read.f k a0_0 a0_1 a0_2 a0_3 a0_4 a1_0 a1_1 a2 = some (r1, r2)) :
  Calls Try.prog 73 #[.agg #[.int .i64 a0_0, .int .i64 a0_1, .int .i64 a0_2, .int .i64 a0_3, .int .i64 a0_4], .agg #[.int .i64 a1_0, .int .i64 a1_1], .int .i64 a2] w fun e w' => e = .returned (.agg #[.int .i64 r1, .int .i64 r2]) ∧ Below w.heap.size w w' := by
 have hu24 := Try.underlying24
 have hu27 := Try.underlying27
 have HB := Aside0.mk (Below.refl w.heap.size w)
 have H : ((spec_l1good.f a0_0 a0_1 a0_2 a0_3 a0_4 a1_0 a1_1).bind fun t173 => (if t173 = true then ((spec_l1in.f a2 0 100000000).bind fun t174 => (spec_Read.j0 k a2 (!t174) a0_0 a0_1 a0_2 a0_3 a0_4 a1_0 a1_1)) else (spec_Read.j0 k a2 true a0_0 a0_1 a0_2 a0_3 a0_4 a1_0 a1_1))) = some (r1, r2) := h
 clear h
 have HC4 := Aside0.mk H
 clear H
 go_enter Try.func73, Try.ntmps73
 go_upto_region 1 with (first | ((with_reducible refine gate_dst (N := 3) rfl ?_); refine zx 3 #[.int .i64 a0_0, .int .i64 a0_1, .int .i64 a0_2, .int .i64 a0_3, .int .i64 a0_4] 24 ?_; intro gb170 hg w5 hbox hb; have BK170 := Aside0.mk (hbox); have GW170 := zge HB hg; have GE170 := GW170; replace HB := zB HB hb; clear hb hbox hg) | ((with_reducible refine gate_dst (N := 4) rfl ?_); refine zx 4 #[.int .i64 a1_0, .int .i64 a1_1] 27 ?_; intro gb171 hg w6 hbox hb; have BK171 := Aside0.mk (hbox); have GW171 := zge HB hg; have GE171 := GW171; have NB170_171 := zl BK170 hg; have NB171_170 := zg BK170 hg; replace BK170 := zb BK170 hb; replace HB := zB HB hb; clear hb hbox hg) | ((with_reducible refine gate_dst (N := 6) rfl ?_); refine zx 6 #[.int .i64 0, .int .i64 0] 27 ?_; intro gb172 hg w7 hbox hb; have BK172 := Aside0.mk (hbox); have GW172 := zge HB hg; have GE172 := GW172; have NB170_172 := zl BK170 hg; have NB172_170 := zg BK170 hg; have NB171_172 := zl BK171 hg; have NB172_171 := zg BK171 hg; replace BK170 := zb BK170 hb; replace BK171 := zb BK171 hb; replace HB := zB HB hb; clear hb hbox hg))
 (try simp only [Act.put, List.setIfInBounds_toArray, List.set_cons_zero, List.set_cons_succ])
 go_cut [16] (fun v16 wc => ∃ (kq : Nat) (x16_3 : Bool), v16 = .bool x16_3 ∧ Aside0 (spec_Read.j0 kq a2 x16_3 a0_0 a0_1 a0_2 a0_3 a0_4 a1_0 a1_1 = some (r1, r2)) ∧ Aside0 (kq ≤ k) ∧ Aside0 (wc.heap[gb170]? = some (.cells #[.int .i64 a0_0, .int .i64 a0_1, .int .i64 a0_2, .int .i64 a0_3, .int .i64 a0_4] 24 (0, 0))) ∧ Aside0 (wc.heap[gb171]? = some (.cells #[.int .i64 a1_0, .int .i64 a1_1] 27 (0, 0))) ∧ Aside0 (wc.heap[gb172]? = some (.cells #[.int .i64 0, .int .i64 0] 27 (0, 0))) ∧ Aside0 (Below w.heap.size w wc))
 case first =>
  have H := HC4.out
  clear HC4
  replace H := Option.bind_eq_some_iff.mp H
  obtain ⟨t173, A80, H⟩ := H
  replace H : (if t173 = true then ((spec_l1in.f a2 0 100000000).bind fun t174 => (spec_Read.j0 k a2 (!t174) a0_0 a0_1 a0_2 a0_3 a0_4 a1_0 a1_1)) else (spec_Read.j0 k a2 true a0_0 a0_1 a0_2 a0_3 a0_4 a1_0 a1_1)) = some (r1, r2) := H
  have A8 := Aside0.mk A80
  clear A80
  by_cases c9 : t173 = true
  ·subst c9
   have H1 : ((spec_l1in.f a2 0 100000000).bind fun t174 => (spec_Read.j0 k a2 (!t174) a0_0 a0_1 a0_2 a0_3 a0_4 a1_0 a1_1)) = some (r1, r2) := by rw [if_pos rfl] at H; exact H
   clear H
   have H := H1
   clear H1
   replace H := Option.bind_eq_some_iff.mp H
   obtain ⟨t174, A100, H⟩ := H
   replace H : (spec_Read.j0 k a2 (!t174) a0_0 a0_1 a0_2 a0_3 a0_4 a1_0 a1_1) = some (r1, r2) := H
   have A10 := Aside0.mk A100
   clear A100
   have H' := Aside0.mk H
   clear H
   have hnb11 := NB170_171.out
   have hnc11 := NB171_170.out
   have hnb12 := NB170_172.out
   have hnc12 := NB172_170.out
   obtain ⟨hcz13_0, hcz13_1, hcz13_2, hcz13_3, hcz13_4, hfz13_0, hfz13_1, hfz13_2, hfz13_3, hfz13_4⟩ := zs5 BK170
   have hnb14 := NB171_172.out
   have hnc14 := NB172_171.out
   obtain ⟨hcz15_0, hcz15_1, hfz15_0, hfz15_1⟩ := zs2 BK171
   go_wp2_with (first | ((with_reducible refine gate_callee (f := 77) rfl ?_); refine zL (some 10) Try.func77 #[.agg #[.int .i64 a0_0, .int .i64 a0_1, .int .i64 a0_2, .int .i64 a0_3, .int .i64 a0_4], .agg #[.int .i64 a1_0, .int .i64 a1_1]] ?_; (with_reducible refine (spec_l1good.calls a0_0 a0_1 a0_2 a0_3 a0_4 a1_0 a1_1 true _ A8.out).mono ?_); rintro e w16 ⟨rfl, hb⟩; refine ⟨_, rfl, ?_⟩; replace BK170 := zb BK170 hb; replace BK171 := zb BK171 hb; replace BK172 := zb BK172 hb; replace HB := zB HB hb; (try clear hb)) | (go_at_call 80; (with_reducible refine (spec_l1in.calls a2 0 100000000 t174 _ A10.out).mono ?_); rintro e w' ⟨rfl, ⟨nd, rfl⟩⟩))
   go_meet
   case rel => exact ⟨_, (!t174), ze, H', ⟨by first | omega | exact Nat.le_refl _⟩, ⟨zy BK170⟩, ⟨zy BK171⟩, ⟨zy BK172⟩, ⟨by repeat (first | (with_reducible first | exact HB.out | apply below_alloc | apply pw_below_drewN | apply below_drew1 | refine below_set ?_ GE170.out | refine below_set ?_ GE171.out | refine below_set ?_ GE172.out) | exact HB.out)⟩⟩
  ·replace c9 := Bool.eq_false_iff.mpr c9
   subst c9
   have H1 : (spec_Read.j0 k a2 true a0_0 a0_1 a0_2 a0_3 a0_4 a1_0 a1_1) = some (r1, r2) := by rw [if_neg (show ¬ (false = true) by decide)] at H; exact H
   clear H
   have H := H1
   clear H1
   have H' := Aside0.mk H
   clear H
   have hnb17 := NB170_171.out
   have hnc17 := NB171_170.out
   have hnb18 := NB170_172.out
   have hnc18 := NB172_170.out
   obtain ⟨hcz19_0, hcz19_1, hcz19_2, hcz19_3, hcz19_4, hfz19_0, hfz19_1, hfz19_2, hfz19_3, hfz19_4⟩ := zs5 BK170
   have hnb20 := NB171_172.out
   have hnc20 := NB172_171.out
   obtain ⟨hcz21_0, hcz21_1, hfz21_0, hfz21_1⟩ := zs2 BK171
   go_wp2_with (first | ((with_reducible refine gate_callee (f := 77) rfl ?_); refine zL (some 10) Try.func77 #[.agg #[.int .i64 a0_0, .int .i64 a0_1, .int .i64 a0_2, .int .i64 a0_3, .int .i64 a0_4], .agg #[.int .i64 a1_0, .int .i64 a1_1]] ?_; (with_reducible refine (spec_l1good.calls a0_0 a0_1 a0_2 a0_3 a0_4 a1_0 a1_1 false _ A8.out).mono ?_); rintro e w22 ⟨rfl, hb⟩; refine ⟨_, rfl, ?_⟩; replace BK170 := zb BK170 hb; replace BK171 := zb BK171 hb; replace BK172 := zb BK172 hb; replace HB := zB HB hb; (try clear hb)))
   go_meet
   case rel => exact ⟨_, (true), ze, H', ⟨by first | omega | exact Nat.le_refl _⟩, ⟨zy BK170⟩, ⟨zy BK171⟩, ⟨zy BK172⟩, ⟨by repeat (first | (with_reducible first | exact HB.out | apply below_alloc | apply pw_below_drewN | apply below_drew1 | refine below_set ?_ GE170.out | refine below_set ?_ GE171.out | refine below_set ?_ GE172.out) | exact HB.out)⟩⟩
 case rest =>
  clear HC4
  (try clear c1); (try clear c2); (try clear p2); (try clear c7); (try clear c9); (try clear c11); (try clear c12); (try clear c14); (try clear c17); (try clear c18); (try clear c20); (try clear hcz13_0); (try clear hcz13_1); (try clear hcz13_2); (try clear hcz13_3); (try clear hcz13_4); (try clear hcz15_0); (try clear hcz15_1); (try clear hcz19_0); (try clear hcz19_1); (try clear hcz19_2); (try clear hcz19_3); (try clear hcz19_4); (try clear hcz21_0); (try clear hcz21_1); (try clear hfz13_0); (try clear hfz13_1); (try clear hfz13_2); (try clear hfz13_3); (try clear hfz13_4); (try clear hfz15_0); (try clear hfz15_1); (try clear hfz19_0); (try clear hfz19_1); (try clear hfz19_2); (try clear hfz19_3); (try clear hfz19_4); (try clear hfz21_0); (try clear hfz21_1)
  obtain ⟨kq, x16_3, rfl, HA, HJ3, BK170, BK171, BK172, HB⟩ := hcut
  cases kq with
  | zero => exact absurd HA.out (by simp [spec_Read.j0])
  | succ kj3 =>
   have H := HA.out
   clear HA
   simp only [spec_Read.j0] at H
   by_cases c23 : x16_3 = true
   ·subst c23
    have H1 : (some (0, 0)) = some (r1, r2) := by rw [if_pos rfl] at H; exact H
    clear H
    have H := H1
    clear H1
    simp only [Option.some.injEq, Prod.mk.injEq] at H
    obtain ⟨rfl, rfl⟩ := H
    have hnb24 := NB172_170.out
    have hnc24 := NB170_172.out
    have hnb25 := NB172_171.out
    have hnc25 := NB171_172.out
    obtain ⟨hcz26_0, hcz26_1, hfz26_0, hfz26_1⟩ := zs2 BK172
    go_wp2
    refine bodyPost_ret (results_cell_row rfl _ _ gb172 27 #[.int .i64 0, .int .i64 0] (0, 0) _ rfl (by (with_reducible repeat (first | refine blk_drewN ?_ _ | refine blk_drew ?_ | refine blk_alloc ?_ _)); refine blk_put (cs := #[.int .i64 0, .int .i64 0]) ?_ 1 _ rfl; (with_reducible repeat (first | refine blk_drewN ?_ _ | refine blk_drew ?_ | refine blk_alloc ?_ _)); refine blk_put (cs := #[.int .i64 0, .int .i64 0]) ?_ 0 _ rfl; (with_reducible repeat (first | refine blk_drewN ?_ _ | refine blk_drew ?_ | refine blk_alloc ?_ _)); exact BK172.out) Try.underlying27 rfl (by kernel_rfl)) rfl ?_
    exact ⟨by first | rfl | (simp [errW_none, errW_some] <;> rfl) | (simp [*, errW_none, errW_some] <;> rfl), by repeat (first | (with_reducible first | exact HB.out | apply below_alloc | apply pw_below_drewN | apply below_drew1 | refine below_set ?_ GE170.out | refine below_set ?_ GE171.out | refine below_set ?_ GE172.out) | exact HB.out)⟩
   ·replace c23 := Bool.eq_false_iff.mpr c23
    subst c23
    have H1 : ((spec_l1clip.f kj3 (wrap64 (a2 - a0_2)) (wrap64 (a2 + a0_2))).bind fun bt175 => ((spec_Meets.f a1_0 a1_1 bt175.1 bt175.2).bind fun t178 => (if t178 = true then ((spec_Both.f a1_0 a1_1 bt175.1 bt175.2).bind fun bt179 => (some (bt179.1, bt179.2))) else (if bt175.1 < a1_0 then (if bt175.2 > a1_1 then (some (bt175.1, bt175.2)) else (some (bt175.1, a1_1))) else (if bt175.2 > a1_1 then (some (a1_0, bt175.2)) else (some (a1_0, a1_1))))))) = some (r1, r2) := by rw [if_neg (show ¬ (false = true) by decide)] at H; exact H
    clear H
    have H := H1
    clear H1
    replace H := Option.bind_eq_some_iff.mp H
    obtain ⟨⟨t175, t176⟩, A270, H⟩ := H
    replace H : ((spec_Meets.f a1_0 a1_1 t175 t176).bind fun t178 => (if t178 = true then ((spec_Both.f a1_0 a1_1 t175 t176).bind fun bt179 => (some (bt179.1, bt179.2))) else (if t175 < a1_0 then (if t176 > a1_1 then (some (t175, t176)) else (some (t175, a1_1))) else (if t176 > a1_1 then (some (a1_0, t176)) else (some (a1_0, a1_1)))))) = some (r1, r2) := H
    have A27 := Aside0.mk A270
    clear A270
    replace H := Option.bind_eq_some_iff.mp H
    obtain ⟨t178, A280, H⟩ := H
    replace H : (if t178 = true then ((spec_Both.f a1_0 a1_1 t175 t176).bind fun bt179 => (some (bt179.1, bt179.2))) else (if t175 < a1_0 then (if t176 > a1_1 then (some (t175, t176)) else (some (t175, a1_1))) else (if t176 > a1_1 then (some (a1_0, t176)) else (some (a1_0, a1_1))))) = some (r1, r2) := H
    have A28 := Aside0.mk A280
    clear A280
    by_cases c29 : t178 = true
    ·subst c29
     have H1 : ((spec_Both.f a1_0 a1_1 t175 t176).bind fun bt179 => (some (bt179.1, bt179.2))) = some (r1, r2) := by rw [if_pos rfl] at H; exact H
     clear H
     have H := H1
     clear H1
     replace H := Option.bind_eq_some_iff.mp H
     obtain ⟨⟨t179, t180⟩, A300, H⟩ := H
     replace H : (some (t179, t180)) = some (r1, r2) := H
     have A30 := Aside0.mk A300
     clear A300
     simp only [Option.some.injEq, Prod.mk.injEq] at H
     obtain ⟨rfl, rfl⟩ := H
     have hnb31 := NB170_171.out
     have hnc31 := NB171_170.out
     have hnb32 := NB170_172.out
     have hnc32 := NB172_170.out
     obtain ⟨hcz33_0, hcz33_1, hcz33_2, hcz33_3, hcz33_4, hfz33_0, hfz33_1, hfz33_2, hfz33_3, hfz33_4⟩ := zs5 BK170
     go_wp2_with (first | ((with_reducible refine gate_callee (f := 71) rfl ?_); refine zL (some 27) Try.func71 #[.agg #[.int .i64 (wrap64 (a2 - a0_2)), .int .i64 (wrap64 (a2 + a0_2))]] ?_; (with_reducible refine (spec_l1clip.calls kj3 (wrap64 (a2 - a0_2)) (wrap64 (a2 + a0_2)) t175 t176 _ A27.out).mono ?_); rintro e w34 ⟨rfl, hb⟩; refine ⟨_, rfl, ?_⟩; replace BK170 := zb BK170 hb; replace BK171 := zb BK171 hb; replace BK172 := zb BK172 hb; replace HB := zB HB hb; (try clear hb)) | ((with_reducible refine gate_dst (N := 7) rfl ?_); refine zx 7 #[.int .i64 0, .int .i64 0] 27 ?_; intro gb177 hg w35 hbox hb; have BK177 := Aside0.mk (hbox); have GW177 := zge HB hg; have GE177 := GW177; have NB170_177 := zl BK170 hg; have NB177_170 := zg BK170 hg; have NB171_177 := zl BK171 hg; have NB177_171 := zg BK171 hg; have NB172_177 := zl BK172 hg; have NB177_172 := zg BK172 hg; replace BK170 := zb BK170 hb; replace BK171 := zb BK171 hb; replace BK172 := zb BK172 hb; replace HB := zB HB hb; clear hb hbox hg; have hnb36 := NB177_170.out; have hnc36 := NB170_177.out; have hnb37 := NB177_171.out; have hnc37 := NB171_177.out; have hnb38 := NB177_172.out; have hnc38 := NB172_177.out; obtain ⟨hcz39_0, hcz39_1, hfz39_0, hfz39_1⟩ := zs2 BK177; have hnb40 := NB171_172.out; have hnc40 := NB172_171.out; obtain ⟨hcz41_0, hcz41_1, hfz41_0, hfz41_1⟩ := zs2 BK171) | ((with_reducible refine gate_callee (f := 72) rfl ?_); refine zL (some 30) Try.func72 #[.agg #[.int .i64 a1_0, .int .i64 a1_1], .agg #[.int .i64 t175, .int .i64 t176]] ?_; (with_reducible refine (spec_Meets.calls a1_0 a1_1 t175 t176 true _ A28.out).mono ?_); rintro e w42 ⟨rfl, hb⟩; refine ⟨_, rfl, ?_⟩; have n0_ := Aside0.mk (blk_below (g := gb170) (o := .cells #[.int .i64 a0_0, .int .i64 a0_1, .int .i64 a0_2, .int .i64 a0_3, .int .i64 a0_4] 24 (0, 0)) (by (with_reducible repeat (first | refine blk_drewN ?_ _ | refine blk_drew ?_ | refine blk_alloc ?_ _)); refine blk_far ?_ NB170_177.out _; (with_reducible repeat (first | refine blk_drewN ?_ _ | refine blk_drew ?_ | refine blk_alloc ?_ _)); refine blk_far ?_ NB170_177.out _; (with_reducible repeat (first | refine blk_drewN ?_ _ | refine blk_drew ?_ | refine blk_alloc ?_ _)); exact BK170.out) hb); have n1_ := Aside0.mk (blk_below (g := gb171) (o := .cells #[.int .i64 a1_0, .int .i64 a1_1] 27 (0, 0)) (by (with_reducible repeat (first | refine blk_drewN ?_ _ | refine blk_drew ?_ | refine blk_alloc ?_ _)); refine blk_far ?_ NB171_177.out _; (with_reducible repeat (first | refine blk_drewN ?_ _ | refine blk_drew ?_ | refine blk_alloc ?_ _)); refine blk_far ?_ NB171_177.out _; (with_reducible repeat (first | refine blk_drewN ?_ _ | refine blk_drew ?_ | refine blk_alloc ?_ _)); exact BK171.out) hb); have n2_ := Aside0.mk (blk_below (g := gb172) (o := .cells #[.int .i64 0, .int .i64 0] 27 (0, 0)) (by (with_reducible repeat (first | refine blk_drewN ?_ _ | refine blk_drew ?_ | refine blk_alloc ?_ _)); refine blk_far ?_ NB172_177.out _; (with_reducible repeat (first | refine blk_drewN ?_ _ | refine blk_drew ?_ | refine blk_alloc ?_ _)); refine blk_far ?_ NB172_177.out _; (with_reducible repeat (first | refine blk_drewN ?_ _ | refine blk_drew ?_ | refine blk_alloc ?_ _)); exact BK172.out) hb); have n3_ := Aside0.mk (blk_below (g := gb177) (o := .cells #[.int .i64 t175, .int .i64 t176] 27 (0, 0)) (by (with_reducible repeat (first | refine blk_drewN ?_ _ | refine blk_drew ?_ | refine blk_alloc ?_ _)); refine blk_put (cs := #[.int .i64 t175, .int .i64 0]) ?_ 1 _ rfl; (with_reducible repeat (first | refine blk_drewN ?_ _ | refine blk_drew ?_ | refine blk_alloc ?_ _)); refine blk_put (cs := #[.int .i64 0, .int .i64 0]) ?_ 0 _ rfl; (with_reducible repeat (first | refine blk_drewN ?_ _ | refine blk_drew ?_ | refine blk_alloc ?_ _)); exact BK177.out) hb); have n4_ := Aside0.mk (below_step (by repeat (first | (with_reducible first | exact HB.out | apply below_alloc | apply pw_below_drewN | apply below_drew1 | refine below_set ?_ GE170.out | refine below_set ?_ GE171.out | refine below_set ?_ GE172.out | refine below_set ?_ GE177.out) | exact HB.out)) hb); clear BK170 BK171 BK172 BK177 HB; have BK170 := n0_; have BK171 := n1_; have BK172 := n2_; have BK177 := n3_; have HB := n4_; clear n0_ n1_ n2_ n3_ n4_; (try clear hb); obtain ⟨hcz43_0, hcz43_1, hfz43_0, hfz43_1⟩ := zs2 BK171; obtain ⟨hcz44_0, hcz44_1, hfz44_0, hfz44_1⟩ := zs2 BK177) | ((with_reducible refine gate_callee (f := 98) rfl ?_); refine zL (some 33) Try.func98 #[.agg #[.int .i64 a1_0, .int .i64 a1_1], .agg #[.int .i64 t175, .int .i64 t176]] ?_; (with_reducible refine (spec_Both.calls a1_0 a1_1 t175 t176 t179 t180 _ A30.out).mono ?_); rintro e w45 ⟨rfl, hb⟩; refine ⟨_, rfl, ?_⟩; replace BK170 := zb BK170 hb; replace BK171 := zb BK171 hb; replace BK172 := zb BK172 hb; replace BK177 := zb BK177 hb; replace HB := zB HB hb; (try clear hb); obtain ⟨hcz46_0, hcz46_1, hfz46_0, hfz46_1⟩ := zs2 BK172))
     refine bodyPost_ret (results_cell_row rfl _ _ gb172 27 #[.int .i64 t179, .int .i64 t180] (0, 0) _ rfl (by (with_reducible repeat (first | refine blk_drewN ?_ _ | refine blk_drew ?_ | refine blk_alloc ?_ _)); refine blk_put (cs := #[.int .i64 t179, .int .i64 0]) ?_ 1 _ rfl; (with_reducible repeat (first | refine blk_drewN ?_ _ | refine blk_drew ?_ | refine blk_alloc ?_ _)); refine blk_put (cs := #[.int .i64 0, .int .i64 0]) ?_ 0 _ rfl; (with_reducible repeat (first | refine blk_drewN ?_ _ | refine blk_drew ?_ | refine blk_alloc ?_ _)); exact BK172.out) Try.underlying27 rfl (by kernel_rfl)) rfl ?_
     exact ⟨by first | rfl | (simp [errW_none, errW_some] <;> rfl) | (simp [*, errW_none, errW_some] <;> rfl), by repeat (first | (with_reducible first | exact HB.out | apply below_alloc | apply pw_below_drewN | apply below_drew1 | refine below_set ?_ GE170.out | refine below_set ?_ GE171.out | refine below_set ?_ GE172.out | refine below_set ?_ GE177.out) | exact HB.out)⟩
    ·replace c29 := Bool.eq_false_iff.mpr c29
     subst c29
     have H1 : (if t175 < a1_0 then (if t176 > a1_1 then (some (t175, t176)) else (some (t175, a1_1))) else (if t176 > a1_1 then (some (a1_0, t176)) else (some (a1_0, a1_1)))) = some (r1, r2) := by rw [if_neg (show ¬ (false = true) by decide)] at H; exact H
     clear H
     have H := H1
     clear H1
     by_cases c47 : t175 < a1_0
     ·rw [if_pos c47] at H
      have c47b0 : decide (t175 < a1_0) = true := decide_eq_true c47
      clear c47
      by_cases c48 : t176 > a1_1
      ·rw [if_pos c48] at H
       have c48b0 : decide (a1_1 < t176) = true := decide_eq_true c48
       clear c48
       simp only [Option.some.injEq, Prod.mk.injEq] at H
       obtain ⟨rfl, rfl⟩ := H
       have hnb49 := NB170_171.out
       have hnc49 := NB171_170.out
       have hnb50 := NB170_172.out
       have hnc50 := NB172_170.out
       obtain ⟨hcz51_0, hcz51_1, hcz51_2, hcz51_3, hcz51_4, hfz51_0, hfz51_1, hfz51_2, hfz51_3, hfz51_4⟩ := zs5 BK170
       go_wp2_with (first | ((with_reducible refine gate_callee (f := 71) rfl ?_); refine zL (some 27) Try.func71 #[.agg #[.int .i64 (wrap64 (a2 - a0_2)), .int .i64 (wrap64 (a2 + a0_2))]] ?_; (with_reducible refine (spec_l1clip.calls kj3 (wrap64 (a2 - a0_2)) (wrap64 (a2 + a0_2)) t175 t176 _ A27.out).mono ?_); rintro e w52 ⟨rfl, hb⟩; refine ⟨_, rfl, ?_⟩; replace BK170 := zb BK170 hb; replace BK171 := zb BK171 hb; replace BK172 := zb BK172 hb; replace HB := zB HB hb; (try clear hb)) | ((with_reducible refine gate_dst (N := 7) rfl ?_); refine zx 7 #[.int .i64 0, .int .i64 0] 27 ?_; intro gb177 hg w53 hbox hb; have BK177 := Aside0.mk (hbox); have GW177 := zge HB hg; have GE177 := GW177; have NB170_177 := zl BK170 hg; have NB177_170 := zg BK170 hg; have NB171_177 := zl BK171 hg; have NB177_171 := zg BK171 hg; have NB172_177 := zl BK172 hg; have NB177_172 := zg BK172 hg; replace BK170 := zb BK170 hb; replace BK171 := zb BK171 hb; replace BK172 := zb BK172 hb; replace HB := zB HB hb; clear hb hbox hg; have hnb54 := NB177_170.out; have hnc54 := NB170_177.out; have hnb55 := NB177_171.out; have hnc55 := NB171_177.out; have hnb56 := NB177_172.out; have hnc56 := NB172_177.out; obtain ⟨hcz57_0, hcz57_1, hfz57_0, hfz57_1⟩ := zs2 BK177; have hnb58 := NB171_172.out; have hnc58 := NB172_171.out; obtain ⟨hcz59_0, hcz59_1, hfz59_0, hfz59_1⟩ := zs2 BK171) | ((with_reducible refine gate_callee (f := 72) rfl ?_); refine zL (some 30) Try.func72 #[.agg #[.int .i64 a1_0, .int .i64 a1_1], .agg #[.int .i64 t175, .int .i64 t176]] ?_; (with_reducible refine (spec_Meets.calls a1_0 a1_1 t175 t176 false _ A28.out).mono ?_); rintro e w60 ⟨rfl, hb⟩; refine ⟨_, rfl, ?_⟩; have n0_ := Aside0.mk (blk_below (g := gb170) (o := .cells #[.int .i64 a0_0, .int .i64 a0_1, .int .i64 a0_2, .int .i64 a0_3, .int .i64 a0_4] 24 (0, 0)) (by (with_reducible repeat (first | refine blk_drewN ?_ _ | refine blk_drew ?_ | refine blk_alloc ?_ _)); refine blk_far ?_ NB170_177.out _; (with_reducible repeat (first | refine blk_drewN ?_ _ | refine blk_drew ?_ | refine blk_alloc ?_ _)); refine blk_far ?_ NB170_177.out _; (with_reducible repeat (first | refine blk_drewN ?_ _ | refine blk_drew ?_ | refine blk_alloc ?_ _)); exact BK170.out) hb); have n1_ := Aside0.mk (blk_below (g := gb171) (o := .cells #[.int .i64 a1_0, .int .i64 a1_1] 27 (0, 0)) (by (with_reducible repeat (first | refine blk_drewN ?_ _ | refine blk_drew ?_ | refine blk_alloc ?_ _)); refine blk_far ?_ NB171_177.out _; (with_reducible repeat (first | refine blk_drewN ?_ _ | refine blk_drew ?_ | refine blk_alloc ?_ _)); refine blk_far ?_ NB171_177.out _; (with_reducible repeat (first | refine blk_drewN ?_ _ | refine blk_drew ?_ | refine blk_alloc ?_ _)); exact BK171.out) hb); have n2_ := Aside0.mk (blk_below (g := gb172) (o := .cells #[.int .i64 0, .int .i64 0] 27 (0, 0)) (by (with_reducible repeat (first | refine blk_drewN ?_ _ | refine blk_drew ?_ | refine blk_alloc ?_ _)); refine blk_far ?_ NB172_177.out _; (with_reducible repeat (first | refine blk_drewN ?_ _ | refine blk_drew ?_ | refine blk_alloc ?_ _)); refine blk_far ?_ NB172_177.out _; (with_reducible repeat (first | refine blk_drewN ?_ _ | refine blk_drew ?_ | refine blk_alloc ?_ _)); exact BK172.out) hb); have n3_ := Aside0.mk (blk_below (g := gb177) (o := .cells #[.int .i64 t175, .int .i64 t176] 27 (0, 0)) (by (with_reducible repeat (first | refine blk_drewN ?_ _ | refine blk_drew ?_ | refine blk_alloc ?_ _)); refine blk_put (cs := #[.int .i64 t175, .int .i64 0]) ?_ 1 _ rfl; (with_reducible repeat (first | refine blk_drewN ?_ _ | refine blk_drew ?_ | refine blk_alloc ?_ _)); refine blk_put (cs := #[.int .i64 0, .int .i64 0]) ?_ 0 _ rfl; (with_reducible repeat (first | refine blk_drewN ?_ _ | refine blk_drew ?_ | refine blk_alloc ?_ _)); exact BK177.out) hb); have n4_ := Aside0.mk (below_step (by repeat (first | (with_reducible first | exact HB.out | apply below_alloc | apply pw_below_drewN | apply below_drew1 | refine below_set ?_ GE170.out | refine below_set ?_ GE171.out | refine below_set ?_ GE172.out | refine below_set ?_ GE177.out) | exact HB.out)) hb); clear BK170 BK171 BK172 BK177 HB; have BK170 := n0_; have BK171 := n1_; have BK172 := n2_; have BK177 := n3_; have HB := n4_; clear n0_ n1_ n2_ n3_ n4_; (try clear hb); obtain ⟨hcz61_0, hcz61_1, hfz61_0, hfz61_1⟩ := zs2 BK177; obtain ⟨hcz62_0, hcz62_1, hfz62_0, hfz62_1⟩ := zs2 BK171; obtain ⟨hcz63_0, hcz63_1, hfz63_0, hfz63_1⟩ := zs2 BK172))
       refine bodyPost_ret (results_cell_row rfl _ _ gb172 27 #[.int .i64 t175, .int .i64 t176] (0, 0) _ rfl (by (with_reducible repeat (first | refine blk_drewN ?_ _ | refine blk_drew ?_ | refine blk_alloc ?_ _)); refine blk_put (cs := #[.int .i64 t175, .int .i64 0]) ?_ 1 _ rfl; (with_reducible repeat (first | refine blk_drewN ?_ _ | refine blk_drew ?_ | refine blk_alloc ?_ _)); refine blk_put (cs := #[.int .i64 0, .int .i64 0]) ?_ 0 _ rfl; (with_reducible repeat (first | refine blk_drewN ?_ _ | refine blk_drew ?_ | refine blk_alloc ?_ _)); refine blk_far ?_ NB172_171.out _; (with_reducible repeat (first | refine blk_drewN ?_ _ | refine blk_drew ?_ | refine blk_alloc ?_ _)); refine blk_far ?_ NB172_171.out _; (with_reducible repeat (first | refine blk_drewN ?_ _ | refine blk_drew ?_ | refine blk_alloc ?_ _)); exact BK172.out) Try.underlying27 rfl (by kernel_rfl)) rfl ?_
       exact ⟨by first | rfl | (simp [errW_none, errW_some] <;> rfl) | (simp [*, errW_none, errW_some] <;> rfl), by repeat (first | (with_reducible first | exact HB.out | apply below_alloc | apply pw_below_drewN | apply below_drew1 | refine below_set ?_ GE170.out | refine below_set ?_ GE171.out | refine below_set ?_ GE172.out | refine below_set ?_ GE177.out) | exact HB.out)⟩
      ·rw [if_neg c48] at H
       have c48b0 : decide (a1_1 < t176) = false := decide_eq_false c48
       clear c48
       simp only [Option.some.injEq, Prod.mk.injEq] at H
       obtain ⟨rfl, rfl⟩ := H
       have hnb64 := NB170_171.out
       have hnc64 := NB171_170.out
       have hnb65 := NB170_172.out
       have hnc65 := NB172_170.out
       obtain ⟨hcz66_0, hcz66_1, hcz66_2, hcz66_3, hcz66_4, hfz66_0, hfz66_1, hfz66_2, hfz66_3, hfz66_4⟩ := zs5 BK170
       go_wp2_with (first | ((with_reducible refine gate_callee (f := 71) rfl ?_); refine zL (some 27) Try.func71 #[.agg #[.int .i64 (wrap64 (a2 - a0_2)), .int .i64 (wrap64 (a2 + a0_2))]] ?_; (with_reducible refine (spec_l1clip.calls kj3 (wrap64 (a2 - a0_2)) (wrap64 (a2 + a0_2)) t175 t176 _ A27.out).mono ?_); rintro e w67 ⟨rfl, hb⟩; refine ⟨_, rfl, ?_⟩; replace BK170 := zb BK170 hb; replace BK171 := zb BK171 hb; replace BK172 := zb BK172 hb; replace HB := zB HB hb; (try clear hb)) | ((with_reducible refine gate_dst (N := 7) rfl ?_); refine zx 7 #[.int .i64 0, .int .i64 0] 27 ?_; intro gb177 hg w68 hbox hb; have BK177 := Aside0.mk (hbox); have GW177 := zge HB hg; have GE177 := GW177; have NB170_177 := zl BK170 hg; have NB177_170 := zg BK170 hg; have NB171_177 := zl BK171 hg; have NB177_171 := zg BK171 hg; have NB172_177 := zl BK172 hg; have NB177_172 := zg BK172 hg; replace BK170 := zb BK170 hb; replace BK171 := zb BK171 hb; replace BK172 := zb BK172 hb; replace HB := zB HB hb; clear hb hbox hg; have hnb69 := NB177_170.out; have hnc69 := NB170_177.out; have hnb70 := NB177_171.out; have hnc70 := NB171_177.out; have hnb71 := NB177_172.out; have hnc71 := NB172_177.out; obtain ⟨hcz72_0, hcz72_1, hfz72_0, hfz72_1⟩ := zs2 BK177; have hnb73 := NB171_172.out; have hnc73 := NB172_171.out; obtain ⟨hcz74_0, hcz74_1, hfz74_0, hfz74_1⟩ := zs2 BK171) | ((with_reducible refine gate_callee (f := 72) rfl ?_); refine zL (some 30) Try.func72 #[.agg #[.int .i64 a1_0, .int .i64 a1_1], .agg #[.int .i64 t175, .int .i64 t176]] ?_; (with_reducible refine (spec_Meets.calls a1_0 a1_1 t175 t176 false _ A28.out).mono ?_); rintro e w75 ⟨rfl, hb⟩; refine ⟨_, rfl, ?_⟩; have n0_ := Aside0.mk (blk_below (g := gb170) (o := .cells #[.int .i64 a0_0, .int .i64 a0_1, .int .i64 a0_2, .int .i64 a0_3, .int .i64 a0_4] 24 (0, 0)) (by (with_reducible repeat (first | refine blk_drewN ?_ _ | refine blk_drew ?_ | refine blk_alloc ?_ _)); refine blk_far ?_ NB170_177.out _; (with_reducible repeat (first | refine blk_drewN ?_ _ | refine blk_drew ?_ | refine blk_alloc ?_ _)); refine blk_far ?_ NB170_177.out _; (with_reducible repeat (first | refine blk_drewN ?_ _ | refine blk_drew ?_ | refine blk_alloc ?_ _)); exact BK170.out) hb); have n1_ := Aside0.mk (blk_below (g := gb171) (o := .cells #[.int .i64 a1_0, .int .i64 a1_1] 27 (0, 0)) (by (with_reducible repeat (first | refine blk_drewN ?_ _ | refine blk_drew ?_ | refine blk_alloc ?_ _)); refine blk_far ?_ NB171_177.out _; (with_reducible repeat (first | refine blk_drewN ?_ _ | refine blk_drew ?_ | refine blk_alloc ?_ _)); refine blk_far ?_ NB171_177.out _; (with_reducible repeat (first | refine blk_drewN ?_ _ | refine blk_drew ?_ | refine blk_alloc ?_ _)); exact BK171.out) hb); have n2_ := Aside0.mk (blk_below (g := gb172) (o := .cells #[.int .i64 0, .int .i64 0] 27 (0, 0)) (by (with_reducible repeat (first | refine blk_drewN ?_ _ | refine blk_drew ?_ | refine blk_alloc ?_ _)); refine blk_far ?_ NB172_177.out _; (with_reducible repeat (first | refine blk_drewN ?_ _ | refine blk_drew ?_ | refine blk_alloc ?_ _)); refine blk_far ?_ NB172_177.out _; (with_reducible repeat (first | refine blk_drewN ?_ _ | refine blk_drew ?_ | refine blk_alloc ?_ _)); exact BK172.out) hb); have n3_ := Aside0.mk (blk_below (g := gb177) (o := .cells #[.int .i64 t175, .int .i64 t176] 27 (0, 0)) (by (with_reducible repeat (first | refine blk_drewN ?_ _ | refine blk_drew ?_ | refine blk_alloc ?_ _)); refine blk_put (cs := #[.int .i64 t175, .int .i64 0]) ?_ 1 _ rfl; (with_reducible repeat (first | refine blk_drewN ?_ _ | refine blk_drew ?_ | refine blk_alloc ?_ _)); refine blk_put (cs := #[.int .i64 0, .int .i64 0]) ?_ 0 _ rfl; (with_reducible repeat (first | refine blk_drewN ?_ _ | refine blk_drew ?_ | refine blk_alloc ?_ _)); exact BK177.out) hb); have n4_ := Aside0.mk (below_step (by repeat (first | (with_reducible first | exact HB.out | apply below_alloc | apply pw_below_drewN | apply below_drew1 | refine below_set ?_ GE170.out | refine below_set ?_ GE171.out | refine below_set ?_ GE172.out | refine below_set ?_ GE177.out) | exact HB.out)) hb); clear BK170 BK171 BK172 BK177 HB; have BK170 := n0_; have BK171 := n1_; have BK172 := n2_; have BK177 := n3_; have HB := n4_; clear n0_ n1_ n2_ n3_ n4_; (try clear hb); obtain ⟨hcz76_0, hcz76_1, hfz76_0, hfz76_1⟩ := zs2 BK177; obtain ⟨hcz77_0, hcz77_1, hfz77_0, hfz77_1⟩ := zs2 BK171; obtain ⟨hcz78_0, hcz78_1, hfz78_0, hfz78_1⟩ := zs2 BK172))
       refine bodyPost_ret (results_cell_row rfl _ _ gb172 27 #[.int .i64 t175, .int .i64 a1_1] (0, 0) _ rfl (by (with_reducible repeat (first | refine blk_drewN ?_ _ | refine blk_drew ?_ | refine blk_alloc ?_ _)); refine blk_put (cs := #[.int .i64 t175, .int .i64 0]) ?_ 1 _ rfl; (with_reducible repeat (first | refine blk_drewN ?_ _ | refine blk_drew ?_ | refine blk_alloc ?_ _)); refine blk_put (cs := #[.int .i64 0, .int .i64 0]) ?_ 0 _ rfl; (with_reducible repeat (first | refine blk_drewN ?_ _ | refine blk_drew ?_ | refine blk_alloc ?_ _)); refine blk_far ?_ NB172_171.out _; (with_reducible repeat (first | refine blk_drewN ?_ _ | refine blk_drew ?_ | refine blk_alloc ?_ _)); exact BK172.out) Try.underlying27 rfl (by kernel_rfl)) rfl ?_
       exact ⟨by first | rfl | (simp [errW_none, errW_some] <;> rfl) | (simp [*, errW_none, errW_some] <;> rfl), by repeat (first | (with_reducible first | exact HB.out | apply below_alloc | apply pw_below_drewN | apply below_drew1 | refine below_set ?_ GE170.out | refine below_set ?_ GE171.out | refine below_set ?_ GE172.out | refine below_set ?_ GE177.out) | exact HB.out)⟩
     ·rw [if_neg c47] at H
      have c47b0 : decide (t175 < a1_0) = false := decide_eq_false c47
      clear c47
      by_cases c79 : t176 > a1_1
      ·rw [if_pos c79] at H
       have c79b0 : decide (a1_1 < t176) = true := decide_eq_true c79
       clear c79
       simp only [Option.some.injEq, Prod.mk.injEq] at H
       obtain ⟨rfl, rfl⟩ := H
       have hnb80 := NB170_171.out
       have hnc80 := NB171_170.out
       have hnb81 := NB170_172.out
       have hnc81 := NB172_170.out
       obtain ⟨hcz82_0, hcz82_1, hcz82_2, hcz82_3, hcz82_4, hfz82_0, hfz82_1, hfz82_2, hfz82_3, hfz82_4⟩ := zs5 BK170
       go_wp2_with (first | ((with_reducible refine gate_callee (f := 71) rfl ?_); refine zL (some 27) Try.func71 #[.agg #[.int .i64 (wrap64 (a2 - a0_2)), .int .i64 (wrap64 (a2 + a0_2))]] ?_; (with_reducible refine (spec_l1clip.calls kj3 (wrap64 (a2 - a0_2)) (wrap64 (a2 + a0_2)) t175 t176 _ A27.out).mono ?_); rintro e w83 ⟨rfl, hb⟩; refine ⟨_, rfl, ?_⟩; replace BK170 := zb BK170 hb; replace BK171 := zb BK171 hb; replace BK172 := zb BK172 hb; replace HB := zB HB hb; (try clear hb)) | ((with_reducible refine gate_dst (N := 7) rfl ?_); refine zx 7 #[.int .i64 0, .int .i64 0] 27 ?_; intro gb177 hg w84 hbox hb; have BK177 := Aside0.mk (hbox); have GW177 := zge HB hg; have GE177 := GW177; have NB170_177 := zl BK170 hg; have NB177_170 := zg BK170 hg; have NB171_177 := zl BK171 hg; have NB177_171 := zg BK171 hg; have NB172_177 := zl BK172 hg; have NB177_172 := zg BK172 hg; replace BK170 := zb BK170 hb; replace BK171 := zb BK171 hb; replace BK172 := zb BK172 hb; replace HB := zB HB hb; clear hb hbox hg; have hnb85 := NB177_170.out; have hnc85 := NB170_177.out; have hnb86 := NB177_171.out; have hnc86 := NB171_177.out; have hnb87 := NB177_172.out; have hnc87 := NB172_177.out; obtain ⟨hcz88_0, hcz88_1, hfz88_0, hfz88_1⟩ := zs2 BK177; have hnb89 := NB171_172.out; have hnc89 := NB172_171.out; obtain ⟨hcz90_0, hcz90_1, hfz90_0, hfz90_1⟩ := zs2 BK171) | ((with_reducible refine gate_callee (f := 72) rfl ?_); refine zL (some 30) Try.func72 #[.agg #[.int .i64 a1_0, .int .i64 a1_1], .agg #[.int .i64 t175, .int .i64 t176]] ?_; (with_reducible refine (spec_Meets.calls a1_0 a1_1 t175 t176 false _ A28.out).mono ?_); rintro e w91 ⟨rfl, hb⟩; refine ⟨_, rfl, ?_⟩; have n0_ := Aside0.mk (blk_below (g := gb170) (o := .cells #[.int .i64 a0_0, .int .i64 a0_1, .int .i64 a0_2, .int .i64 a0_3, .int .i64 a0_4] 24 (0, 0)) (by (with_reducible repeat (first | refine blk_drewN ?_ _ | refine blk_drew ?_ | refine blk_alloc ?_ _)); refine blk_far ?_ NB170_177.out _; (with_reducible repeat (first | refine blk_drewN ?_ _ | refine blk_drew ?_ | refine blk_alloc ?_ _)); refine blk_far ?_ NB170_177.out _; (with_reducible repeat (first | refine blk_drewN ?_ _ | refine blk_drew ?_ | refine blk_alloc ?_ _)); exact BK170.out) hb); have n1_ := Aside0.mk (blk_below (g := gb171) (o := .cells #[.int .i64 a1_0, .int .i64 a1_1] 27 (0, 0)) (by (with_reducible repeat (first | refine blk_drewN ?_ _ | refine blk_drew ?_ | refine blk_alloc ?_ _)); refine blk_far ?_ NB171_177.out _; (with_reducible repeat (first | refine blk_drewN ?_ _ | refine blk_drew ?_ | refine blk_alloc ?_ _)); refine blk_far ?_ NB171_177.out _; (with_reducible repeat (first | refine blk_drewN ?_ _ | refine blk_drew ?_ | refine blk_alloc ?_ _)); exact BK171.out) hb); have n2_ := Aside0.mk (blk_below (g := gb172) (o := .cells #[.int .i64 0, .int .i64 0] 27 (0, 0)) (by (with_reducible repeat (first | refine blk_drewN ?_ _ | refine blk_drew ?_ | refine blk_alloc ?_ _)); refine blk_far ?_ NB172_177.out _; (with_reducible repeat (first | refine blk_drewN ?_ _ | refine blk_drew ?_ | refine blk_alloc ?_ _)); refine blk_far ?_ NB172_177.out _; (with_reducible repeat (first | refine blk_drewN ?_ _ | refine blk_drew ?_ | refine blk_alloc ?_ _)); exact BK172.out) hb); have n3_ := Aside0.mk (blk_below (g := gb177) (o := .cells #[.int .i64 t175, .int .i64 t176] 27 (0, 0)) (by (with_reducible repeat (first | refine blk_drewN ?_ _ | refine blk_drew ?_ | refine blk_alloc ?_ _)); refine blk_put (cs := #[.int .i64 t175, .int .i64 0]) ?_ 1 _ rfl; (with_reducible repeat (first | refine blk_drewN ?_ _ | refine blk_drew ?_ | refine blk_alloc ?_ _)); refine blk_put (cs := #[.int .i64 0, .int .i64 0]) ?_ 0 _ rfl; (with_reducible repeat (first | refine blk_drewN ?_ _ | refine blk_drew ?_ | refine blk_alloc ?_ _)); exact BK177.out) hb); have n4_ := Aside0.mk (below_step (by repeat (first | (with_reducible first | exact HB.out | apply below_alloc | apply pw_below_drewN | apply below_drew1 | refine below_set ?_ GE170.out | refine below_set ?_ GE171.out | refine below_set ?_ GE172.out | refine below_set ?_ GE177.out) | exact HB.out)) hb); clear BK170 BK171 BK172 BK177 HB; have BK170 := n0_; have BK171 := n1_; have BK172 := n2_; have BK177 := n3_; have HB := n4_; clear n0_ n1_ n2_ n3_ n4_; (try clear hb); obtain ⟨hcz92_0, hcz92_1, hfz92_0, hfz92_1⟩ := zs2 BK177; obtain ⟨hcz93_0, hcz93_1, hfz93_0, hfz93_1⟩ := zs2 BK171; obtain ⟨hcz94_0, hcz94_1, hfz94_0, hfz94_1⟩ := zs2 BK172))
       refine bodyPost_ret (results_cell_row rfl _ _ gb172 27 #[.int .i64 a1_0, .int .i64 t176] (0, 0) _ rfl (by (with_reducible repeat (first | refine blk_drewN ?_ _ | refine blk_drew ?_ | refine blk_alloc ?_ _)); refine blk_put (cs := #[.int .i64 a1_0, .int .i64 0]) ?_ 1 _ rfl; (with_reducible repeat (first | refine blk_drewN ?_ _ | refine blk_drew ?_ | refine blk_alloc ?_ _)); refine blk_put (cs := #[.int .i64 0, .int .i64 0]) ?_ 0 _ rfl; (with_reducible repeat (first | refine blk_drewN ?_ _ | refine blk_drew ?_ | refine blk_alloc ?_ _)); refine blk_far ?_ NB172_171.out _; (with_reducible repeat (first | refine blk_drewN ?_ _ | refine blk_drew ?_ | refine blk_alloc ?_ _)); exact BK172.out) Try.underlying27 rfl (by kernel_rfl)) rfl ?_
       exact ⟨by first | rfl | (simp [errW_none, errW_some] <;> rfl) | (simp [*, errW_none, errW_some] <;> rfl), by repeat (first | (with_reducible first | exact HB.out | apply below_alloc | apply pw_below_drewN | apply below_drew1 | refine below_set ?_ GE170.out | refine below_set ?_ GE171.out | refine below_set ?_ GE172.out | refine below_set ?_ GE177.out) | exact HB.out)⟩
      ·rw [if_neg c79] at H
       have c79b0 : decide (a1_1 < t176) = false := decide_eq_false c79
       clear c79
       simp only [Option.some.injEq, Prod.mk.injEq] at H
       obtain ⟨rfl, rfl⟩ := H
       have hnb95 := NB170_171.out
       have hnc95 := NB171_170.out
       have hnb96 := NB170_172.out
       have hnc96 := NB172_170.out
       obtain ⟨hcz97_0, hcz97_1, hcz97_2, hcz97_3, hcz97_4, hfz97_0, hfz97_1, hfz97_2, hfz97_3, hfz97_4⟩ := zs5 BK170
       go_wp2_with (first | ((with_reducible refine gate_callee (f := 71) rfl ?_); refine zL (some 27) Try.func71 #[.agg #[.int .i64 (wrap64 (a2 - a0_2)), .int .i64 (wrap64 (a2 + a0_2))]] ?_; (with_reducible refine (spec_l1clip.calls kj3 (wrap64 (a2 - a0_2)) (wrap64 (a2 + a0_2)) t175 t176 _ A27.out).mono ?_); rintro e w98 ⟨rfl, hb⟩; refine ⟨_, rfl, ?_⟩; replace BK170 := zb BK170 hb; replace BK171 := zb BK171 hb; replace BK172 := zb BK172 hb; replace HB := zB HB hb; (try clear hb)) | ((with_reducible refine gate_dst (N := 7) rfl ?_); refine zx 7 #[.int .i64 0, .int .i64 0] 27 ?_; intro gb177 hg w99 hbox hb; have BK177 := Aside0.mk (hbox); have GW177 := zge HB hg; have GE177 := GW177; have NB170_177 := zl BK170 hg; have NB177_170 := zg BK170 hg; have NB171_177 := zl BK171 hg; have NB177_171 := zg BK171 hg; have NB172_177 := zl BK172 hg; have NB177_172 := zg BK172 hg; replace BK170 := zb BK170 hb; replace BK171 := zb BK171 hb; replace BK172 := zb BK172 hb; replace HB := zB HB hb; clear hb hbox hg; have hnb100 := NB177_170.out; have hnc100 := NB170_177.out; have hnb101 := NB177_171.out; have hnc101 := NB171_177.out; have hnb102 := NB177_172.out; have hnc102 := NB172_177.out; obtain ⟨hcz103_0, hcz103_1, hfz103_0, hfz103_1⟩ := zs2 BK177; have hnb104 := NB171_172.out; have hnc104 := NB172_171.out; obtain ⟨hcz105_0, hcz105_1, hfz105_0, hfz105_1⟩ := zs2 BK171) | ((with_reducible refine gate_callee (f := 72) rfl ?_); refine zL (some 30) Try.func72 #[.agg #[.int .i64 a1_0, .int .i64 a1_1], .agg #[.int .i64 t175, .int .i64 t176]] ?_; (with_reducible refine (spec_Meets.calls a1_0 a1_1 t175 t176 false _ A28.out).mono ?_); rintro e w106 ⟨rfl, hb⟩; refine ⟨_, rfl, ?_⟩; have n0_ := Aside0.mk (blk_below (g := gb170) (o := .cells #[.int .i64 a0_0, .int .i64 a0_1, .int .i64 a0_2, .int .i64 a0_3, .int .i64 a0_4] 24 (0, 0)) (by (with_reducible repeat (first | refine blk_drewN ?_ _ | refine blk_drew ?_ | refine blk_alloc ?_ _)); refine blk_far ?_ NB170_177.out _; (with_reducible repeat (first | refine blk_drewN ?_ _ | refine blk_drew ?_ | refine blk_alloc ?_ _)); refine blk_far ?_ NB170_177.out _; (with_reducible repeat (first | refine blk_drewN ?_ _ | refine blk_drew ?_ | refine blk_alloc ?_ _)); exact BK170.out) hb); have n1_ := Aside0.mk (blk_below (g := gb171) (o := .cells #[.int .i64 a1_0, .int .i64 a1_1] 27 (0, 0)) (by (with_reducible repeat (first | refine blk_drewN ?_ _ | refine blk_drew ?_ | refine blk_alloc ?_ _)); refine blk_far ?_ NB171_177.out _; (with_reducible repeat (first | refine blk_drewN ?_ _ | refine blk_drew ?_ | refine blk_alloc ?_ _)); refine blk_far ?_ NB171_177.out _; (with_reducible repeat (first | refine blk_drewN ?_ _ | refine blk_drew ?_ | refine blk_alloc ?_ _)); exact BK171.out) hb); have n2_ := Aside0.mk (blk_below (g := gb172) (o := .cells #[.int .i64 0, .int .i64 0] 27 (0, 0)) (by (with_reducible repeat (first | refine blk_drewN ?_ _ | refine blk_drew ?_ | refine blk_alloc ?_ _)); refine blk_far ?_ NB172_177.out _; (with_reducible repeat (first | refine blk_drewN ?_ _ | refine blk_drew ?_ | refine blk_alloc ?_ _)); refine blk_far ?_ NB172_177.out _; (with_reducible repeat (first | refine blk_drewN ?_ _ | refine blk_drew ?_ | refine blk_alloc ?_ _)); exact BK172.out) hb); have n3_ := Aside0.mk (blk_below (g := gb177) (o := .cells #[.int .i64 t175, .int .i64 t176] 27 (0, 0)) (by (with_reducible repeat (first | refine blk_drewN ?_ _ | refine blk_drew ?_ | refine blk_alloc ?_ _)); refine blk_put (cs := #[.int .i64 t175, .int .i64 0]) ?_ 1 _ rfl; (with_reducible repeat (first | refine blk_drewN ?_ _ | refine blk_drew ?_ | refine blk_alloc ?_ _)); refine blk_put (cs := #[.int .i64 0, .int .i64 0]) ?_ 0 _ rfl; (with_reducible repeat (first | refine blk_drewN ?_ _ | refine blk_drew ?_ | refine blk_alloc ?_ _)); exact BK177.out) hb); have n4_ := Aside0.mk (below_step (by repeat (first | (with_reducible first | exact HB.out | apply below_alloc | apply pw_below_drewN | apply below_drew1 | refine below_set ?_ GE170.out | refine below_set ?_ GE171.out | refine below_set ?_ GE172.out | refine below_set ?_ GE177.out) | exact HB.out)) hb); clear BK170 BK171 BK172 BK177 HB; have BK170 := n0_; have BK171 := n1_; have BK172 := n2_; have BK177 := n3_; have HB := n4_; clear n0_ n1_ n2_ n3_ n4_; (try clear hb); obtain ⟨hcz107_0, hcz107_1, hfz107_0, hfz107_1⟩ := zs2 BK177; obtain ⟨hcz108_0, hcz108_1, hfz108_0, hfz108_1⟩ := zs2 BK171; obtain ⟨hcz109_0, hcz109_1, hfz109_0, hfz109_1⟩ := zs2 BK172))
       refine bodyPost_ret (results_cell_row rfl _ _ gb172 27 #[.int .i64 a1_0, .int .i64 a1_1] (0, 0) _ rfl (by (with_reducible repeat (first | refine blk_drewN ?_ _ | refine blk_drew ?_ | refine blk_alloc ?_ _)); refine blk_put (cs := #[.int .i64 a1_0, .int .i64 0]) ?_ 1 _ rfl; (with_reducible repeat (first | refine blk_drewN ?_ _ | refine blk_drew ?_ | refine blk_alloc ?_ _)); refine blk_put (cs := #[.int .i64 0, .int .i64 0]) ?_ 0 _ rfl; (with_reducible repeat (first | refine blk_drewN ?_ _ | refine blk_drew ?_ | refine blk_alloc ?_ _)); exact BK172.out) Try.underlying27 rfl (by kernel_rfl)) rfl ?_
       exact ⟨by first | rfl | (simp [errW_none, errW_some] <;> rfl) | (simp [*, errW_none, errW_some] <;> rfl), by repeat (first | (with_reducible first | exact HB.out | apply below_alloc | apply pw_below_drewN | apply below_drew1 | refine below_set ?_ GE170.out | refine below_set ?_ GE171.out | refine below_set ?_ GE172.out | refine below_set ?_ GE177.out) | exact HB.out)⟩

end Go.Proofs.Ytommdabkkgcgbaa.QFnExactRun
