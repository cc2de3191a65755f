-- Written by a program of this session (wip/tools/turnprint.py over the kit's print), for this claim: functions as plain Lean and their contracts.
import Derived.Test.YtommdabkkgcgbaaQFnTruex0
import Derived.Test.YtommdabkkgcgbaaQFnTruex2
import Derived.Test.YtommdabkkgcgbaaQFnTruex3
namespace Go.Proofs.Ytommdabkkgcgbaa.QFnTrue
open Go.RowKit Go.Proofs.YtommdabkkgcgbaaW.PrintWords Go.Proofs.YtommdabkkgcgbaaW.PrintLast Go.Proofs.YtommdabkkgcgbaaW.PrintMore
attribute [local go_sem] max2_int min2_int max_two min_two max_three min_three max_four min_four   -- for this text's walks alone
set_option linter.unusedVariables false
set_option linter.unusedSimpArgs false

/-! ### impl_Read: function 97 -/
def impl_Read.j0 : Nat → Int → Bool → Int → Int → Int → Int → Int → Int → Int → Option (Int × Int)
 | 0, _, _, _, _, _, _, _, _, _ => none
 | k + 1, x2, x20, x135000, x135001, x135002, x135003, x135004, x136000, x136001 => if x20 = true then (some (0, 0)) else ((impl_own.f x135000 x135001 x135002 x135003 x135004 x2).bind fun bt140 => ((impl_Meets.f bt140.1 bt140.2 x136000 x136001).bind fun t143 => (if t143 = true then ((impl_Both.f bt140.1 bt140.2 x136000 x136001).bind fun bt144 => (some (bt144.1, bt144.2))) else (some (mn bt140.1 x136000, mx bt140.2 x136001)))))
def impl_Read.f (k : Nat) (a0_0 : Int) (a0_1 : Int) (a0_2 : Int) (a0_3 : Int) (a0_4 : Int) (a1_0 : Int) (a1_1 : Int) (a2 : Int) : Option (Int × Int) := (impl_RulesOk.f a0_0 a0_1 a0_2 a0_3 a0_4).bind fun t137 => (if t137 = true then ((impl_BoundOk.f a1_0 a1_1).bind fun t138 => (if t138 = true then ((impl_in.f a2 0 100000000).bind fun t139 => (impl_Read.j0 k a2 (!t139) a0_0 a0_1 a0_2 a0_3 a0_4 a1_0 a1_1)) else (impl_Read.j0 k a2 true a0_0 a0_1 a0_2 a0_3 a0_4 a1_0 a1_1))) else (impl_Read.j0 k a2 true a0_0 a0_1 a0_2 a0_3 a0_4 a1_0 a1_1))
theorem impl_Read.mono_l : ∀ k, (∀ y0 y1 y2 y3 y4 y5 y6 y7 y8, LeO (impl_Read.j0 k y0 y1 y2 y3 y4 y5 y6 y7 y8) (impl_Read.j0 (k + 1) y0 y1 y2 y3 y4 y5 y6 y7 y8))
 | 0 => fun _ _ _ _ _ _ _ _ _ r h => by simp [impl_Read.j0] at h
 | k + 1 => by
  have ih0 := impl_Read.mono_l k
  ·intro y0 y1 y2 y3 y4 y5 y6 y7 y8
   unfold impl_Read.j0
   repeat' first
   | (with_reducible exact ih0 _ _ _ _ _ _ _ _ _)
   | (with_reducible exact LeO.refl _)
   | (with_reducible exact LeO.none _)
   | (with_reducible refine LeO.ite ?_ ?_)
   | (with_reducible refine LeO.bind ?_ (fun _ => ?_))
   | exact ih0 _ _ _ _ _ _ _ _ _
   | exact LeO.none _
   | refine LeO.ite ?_ ?_
   | refine LeO.bind ?_ (fun _ => ?_)
theorem impl_Read.mono : ∀ a0 a1 a2 a3 a4 a5 a6 a7 k, LeO (impl_Read.f k a0 a1 a2 a3 a4 a5 a6 a7) (impl_Read.f (k + 1) a0 a1 a2 a3 a4 a5 a6 a7) := by
 intro a0 a1 a2 a3 a4 a5 a6 a7 k
 have ih0 := impl_Read.mono_l k
 unfold impl_Read.f
 repeat' first
   | (with_reducible exact ih0 _ _ _ _ _ _ _ _ _)
   | (with_reducible exact LeO.refl _)
   | (with_reducible exact LeO.none _)
   | (with_reducible refine LeO.ite ?_ ?_)
   | (with_reducible refine LeO.bind ?_ (fun _ => ?_))
   | exact ih0 _ _ _ _ _ _ _ _ _
   | exact LeO.none _
   | refine LeO.ite ?_ ?_
   | refine LeO.bind ?_ (fun _ => ?_)
set_option maxHeartbeats 8000000 in
set_option maxRecDepth 100000 in
theorem impl_Read.calls (k : Nat) (a0_0 : Int) (a0_1 : Int) (a0_2 : Int) (a0_3 : Int) (a0_4 : Int) (a1_0 : Int) (a1_1 : Int) (a2 : Int) (r1 : Int) (r2 : Int) (w : World) (h : impl_Read.f k a0_0 a0_1 a0_2 a0_3 a0_4 a1_0 a1_1 a2 = some (r1, r2)) :
  Calls Try.prog 97 #[.agg #[.int .i64 a0_0, .int .i64 a0_1, .int .i64 a0_2, .int .i64 a0_3, .int .i64 a0_4], .agg #[.int .i64 a1_0, .int .i64 a1_1], .int .i64 a2] w fun e w' => e = .returned (.agg #[.int .i64 r1, .int .i64 r2]) ∧ Below w.heap.size w w' := by
 have hu24 := Try.underlying24
 have hu27 := Try.underlying27
 have HB := Aside0.mk (Below.refl w.heap.size w)
 have H : ((impl_RulesOk.f a0_0 a0_1 a0_2 a0_3 a0_4).bind fun t137 => (if t137 = true then ((impl_BoundOk.f a1_0 a1_1).bind fun t138 => (if t138 = true then ((impl_in.f a2 0 100000000).bind fun t139 => (impl_Read.j0 k a2 (!t139) a0_0 a0_1 a0_2 a0_3 a0_4 a1_0 a1_1)) else (impl_Read.j0 k a2 true a0_0 a0_1 a0_2 a0_3 a0_4 a1_0 a1_1))) else (impl_Read.j0 k a2 true a0_0 a0_1 a0_2 a0_3 a0_4 a1_0 a1_1))) = some (r1, r2) := h
 clear h
 have HC4 := Aside0.mk H
 clear H
 go_enter Try.func97, Try.ntmps97
 go_upto_region 1 with (first | ((with_reducible refine gate_dst (N := 3) rfl ?_); refine zx 3 #[.int .i64 a0_0, .int .i64 a0_1, .int .i64 a0_2, .int .i64 a0_3, .int .i64 a0_4] 24 ?_; intro gb134 hg w5 hbox hb; have BK134 := Aside0.mk (hbox); have GW134 := zge HB hg; have GE134 := GW134; replace HB := zB HB hb; clear hb hbox hg) | ((with_reducible refine gate_dst (N := 4) rfl ?_); refine zx 4 #[.int .i64 a1_0, .int .i64 a1_1] 27 ?_; intro gb135 hg w6 hbox hb; have BK135 := Aside0.mk (hbox); have GW135 := zge HB hg; have GE135 := GW135; have NB134_135 := zl BK134 hg; have NB135_134 := zg BK134 hg; replace BK134 := zb BK134 hb; replace HB := zB HB hb; clear hb hbox hg) | ((with_reducible refine gate_dst (N := 6) rfl ?_); refine zx 6 #[.int .i64 0, .int .i64 0] 27 ?_; intro gb136 hg w7 hbox hb; have BK136 := Aside0.mk (hbox); have GW136 := zge HB hg; have GE136 := GW136; have NB134_136 := zl BK134 hg; have NB136_134 := zg BK134 hg; have NB135_136 := zl BK135 hg; have NB136_135 := zg BK135 hg; replace BK134 := zb BK134 hb; replace BK135 := zb BK135 hb; replace HB := zB HB hb; clear hb hbox hg))
 (try simp only [Act.put, List.setIfInBounds_toArray, List.set_cons_zero, List.set_cons_succ])
 go_cut [20] (fun v20 wc => ∃ (kq : Nat) (x20_3 : Bool), v20 = .bool x20_3 ∧ Aside0 (impl_Read.j0 kq a2 x20_3 a0_0 a0_1 a0_2 a0_3 a0_4 a1_0 a1_1 = some (r1, r2)) ∧ Aside0 (kq ≤ k) ∧ Aside0 (wc.heap[gb134]? = some (.cells #[.int .i64 a0_0, .int .i64 a0_1, .int .i64 a0_2, .int .i64 a0_3, .int .i64 a0_4] 24 (0, 0))) ∧ Aside0 (wc.heap[gb135]? = some (.cells #[.int .i64 a1_0, .int .i64 a1_1] 27 (0, 0))) ∧ Aside0 (wc.heap[gb136]? = some (.cells #[.int .i64 0, .int .i64 0] 27 (0, 0))) ∧ Aside0 (Below w.heap.size w wc))
 case first =>
  have H := HC4.out
  clear HC4
  replace H := Option.bind_eq_some_iff.mp H
  obtain ⟨t137, A80, H⟩ := H
  replace H : (if t137 = true then ((impl_BoundOk.f a1_0 a1_1).bind fun t138 => (if t138 = true then ((impl_in.f a2 0 100000000).bind fun t139 => (impl_Read.j0 k a2 (!t139) a0_0 a0_1 a0_2 a0_3 a0_4 a1_0 a1_1)) else (impl_Read.j0 k a2 true a0_0 a0_1 a0_2 a0_3 a0_4 a1_0 a1_1))) else (impl_Read.j0 k a2 true a0_0 a0_1 a0_2 a0_3 a0_4 a1_0 a1_1)) = some (r1, r2) := H
  have A8 := Aside0.mk A80
  clear A80
  by_cases c9 : t137 = true
  ·subst c9
   have H1 : ((impl_BoundOk.f a1_0 a1_1).bind fun t138 => (if t138 = true then ((impl_in.f a2 0 100000000).bind fun t139 => (impl_Read.j0 k a2 (!t139) a0_0 a0_1 a0_2 a0_3 a0_4 a1_0 a1_1)) else (impl_Read.j0 k a2 true a0_0 a0_1 a0_2 a0_3 a0_4 a1_0 a1_1))) = some (r1, r2) := by rw [if_pos rfl] at H; exact H
   clear H
   have H := H1
   clear H1
   replace H := Option.bind_eq_some_iff.mp H
   obtain ⟨t138, A100, H⟩ := H
   replace H : (if t138 = true then ((impl_in.f a2 0 100000000).bind fun t139 => (impl_Read.j0 k a2 (!t139) a0_0 a0_1 a0_2 a0_3 a0_4 a1_0 a1_1)) else (impl_Read.j0 k a2 true a0_0 a0_1 a0_2 a0_3 a0_4 a1_0 a1_1)) = some (r1, r2) := H
   have A10 := Aside0.mk A100
   clear A100
   by_cases c11 : t138 = true
   ·subst c11
    have H1 : ((impl_in.f a2 0 100000000).bind fun t139 => (impl_Read.j0 k a2 (!t139) a0_0 a0_1 a0_2 a0_3 a0_4 a1_0 a1_1)) = some (r1, r2) := by rw [if_pos rfl] at H; exact H
    clear H
    have H := H1
    clear H1
    replace H := Option.bind_eq_some_iff.mp H
    obtain ⟨t139, A120, H⟩ := H
    replace H : (impl_Read.j0 k a2 (!t139) a0_0 a0_1 a0_2 a0_3 a0_4 a1_0 a1_1) = some (r1, r2) := H
    have A12 := Aside0.mk A120
    clear A120
    have H' := Aside0.mk H
    clear H
    have hnb13 := NB134_135.out
    have hnc13 := NB135_134.out
    have hnb14 := NB134_136.out
    have hnc14 := NB136_134.out
    obtain ⟨hcz15_0, hcz15_1, hcz15_2, hcz15_3, hcz15_4, hfz15_0, hfz15_1, hfz15_2, hfz15_3, hfz15_4⟩ := zs5 BK134
    go_wp2_with (first | ((with_reducible refine gate_callee (f := 64) rfl ?_); refine zL (some 9) Try.func64 #[.agg #[.int .i64 a0_0, .int .i64 a0_1, .int .i64 a0_2, .int .i64 a0_3, .int .i64 a0_4]] ?_; (with_reducible refine (impl_RulesOk.calls a0_0 a0_1 a0_2 a0_3 a0_4 true _ A8.out).mono ?_); rintro e w16 ⟨rfl, hb⟩; refine ⟨_, rfl, ?_⟩; replace BK134 := zb BK134 hb; replace BK135 := zb BK135 hb; replace BK136 := zb BK136 hb; replace HB := zB HB hb; (try clear hb); have hnb17 := NB135_136.out; have hnc17 := NB136_135.out; obtain ⟨hcz18_0, hcz18_1, hfz18_0, hfz18_1⟩ := zs2 BK135) | (go_at_call 78; (with_reducible refine (impl_BoundOk.calls a1_0 a1_1 true _ A10.out).mono ?_); rintro e w19 ⟨rfl, hb⟩; replace BK134 := zb BK134 hb; replace BK135 := zb BK135 hb; replace BK136 := zb BK136 hb; replace HB := zB HB hb; (try clear hb)) | (go_at_call 81; (with_reducible refine (impl_in.calls a2 0 100000000 t139 _ A12.out).mono ?_); rintro e w' ⟨rfl, ⟨nd, rfl⟩⟩))
    go_meet
    case rel => exact ⟨_, (!t139), ze, H', ⟨by first | omega | exact Nat.le_refl _⟩, ⟨zy BK134⟩, ⟨zy BK135⟩, ⟨zy BK136⟩, ⟨by repeat (first | (with_reducible first | exact HB.out | apply below_alloc | apply pw_below_drewN | apply below_drew1 | refine below_set ?_ GE134.out | refine below_set ?_ GE135.out | refine below_set ?_ GE136.out) | exact HB.out)⟩⟩
   ·replace c11 := Bool.eq_false_iff.mpr c11
    subst c11
    have H1 : (impl_Read.j0 k a2 true a0_0 a0_1 a0_2 a0_3 a0_4 a1_0 a1_1) = some (r1, r2) := by rw [if_neg (show ¬ (false = true) by decide)] at H; exact H
    clear H
    have H := H1
    clear H1
    have H' := Aside0.mk H
    clear H
    have hnb20 := NB134_135.out
    have hnc20 := NB135_134.out
    have hnb21 := NB134_136.out
    have hnc21 := NB136_134.out
    obtain ⟨hcz22_0, hcz22_1, hcz22_2, hcz22_3, hcz22_4, hfz22_0, hfz22_1, hfz22_2, hfz22_3, hfz22_4⟩ := zs5 BK134
    go_wp2_with (first | ((with_reducible refine gate_callee (f := 64) rfl ?_); refine zL (some 9) Try.func64 #[.agg #[.int .i64 a0_0, .int .i64 a0_1, .int .i64 a0_2, .int .i64 a0_3, .int .i64 a0_4]] ?_; (with_reducible refine (impl_RulesOk.calls a0_0 a0_1 a0_2 a0_3 a0_4 true _ A8.out).mono ?_); rintro e w23 ⟨rfl, hb⟩; refine ⟨_, rfl, ?_⟩; replace BK134 := zb BK134 hb; replace BK135 := zb BK135 hb; replace BK136 := zb BK136 hb; replace HB := zB HB hb; (try clear hb); have hnb24 := NB135_136.out; have hnc24 := NB136_135.out; obtain ⟨hcz25_0, hcz25_1, hfz25_0, hfz25_1⟩ := zs2 BK135) | (go_at_call 78; (with_reducible refine (impl_BoundOk.calls a1_0 a1_1 false _ A10.out).mono ?_); rintro e w26 ⟨rfl, hb⟩; replace BK134 := zb BK134 hb; replace BK135 := zb BK135 hb; replace BK136 := zb BK136 hb; replace HB := zB HB hb; (try clear hb)))
    go_meet
    case rel => exact ⟨_, (true), ze, H', ⟨by first | omega | exact Nat.le_refl _⟩, ⟨zy BK134⟩, ⟨zy BK135⟩, ⟨zy BK136⟩, ⟨by repeat (first | (with_reducible first | exact HB.out | apply below_alloc | apply pw_below_drewN | apply below_drew1 | refine below_set ?_ GE134.out | refine below_set ?_ GE135.out | refine below_set ?_ GE136.out) | exact HB.out)⟩⟩
  ·replace c9 := Bool.eq_false_iff.mpr c9
   subst c9
   have H1 : (impl_Read.j0 k a2 true a0_0 a0_1 a0_2 a0_3 a0_4 a1_0 a1_1) = some (r1, r2) := by rw [if_neg (show ¬ (false = true) by decide)] at H; exact H
   clear H
   have H := H1
   clear H1
   have H' := Aside0.mk H
   clear H
   have hnb27 := NB134_135.out
   have hnc27 := NB135_134.out
   have hnb28 := NB134_136.out
   have hnc28 := NB136_134.out
   obtain ⟨hcz29_0, hcz29_1, hcz29_2, hcz29_3, hcz29_4, hfz29_0, hfz29_1, hfz29_2, hfz29_3, hfz29_4⟩ := zs5 BK134
   go_wp2_with (first | ((with_reducible refine gate_callee (f := 64) rfl ?_); refine zL (some 9) Try.func64 #[.agg #[.int .i64 a0_0, .int .i64 a0_1, .int .i64 a0_2, .int .i64 a0_3, .int .i64 a0_4]] ?_; (with_reducible refine (impl_RulesOk.calls a0_0 a0_1 a0_2 a0_3 a0_4 false _ A8.out).mono ?_); rintro e w30 ⟨rfl, hb⟩; refine ⟨_, rfl, ?_⟩; replace BK134 := zb BK134 hb; replace BK135 := zb BK135 hb; replace BK136 := zb BK136 hb; replace HB := zB HB hb; (try clear hb)))
   go_meet
   case rel => exact ⟨_, (true), ze, H', ⟨by first | omega | exact Nat.le_refl _⟩, ⟨zy BK134⟩, ⟨zy BK135⟩, ⟨zy BK136⟩, ⟨by repeat (first | (with_reducible first | exact HB.out | apply below_alloc | apply pw_below_drewN | apply below_drew1 | refine below_set ?_ GE134.out | refine below_set ?_ GE135.out | refine below_set ?_ GE136.out) | exact HB.out)⟩⟩
 case rest =>
  clear HC4
  (try clear c1); (try clear c2); (try clear p2); (try clear c6); (try clear c9); (try clear c11); (try clear c13); (try clear c14); (try clear c17); (try clear c20); (try clear c21); (try clear c24); (try clear c27); (try clear c28); (try clear hcz15_0); (try clear hcz15_1); (try clear hcz15_2); (try clear hcz15_3); (try clear hcz15_4); (try clear hcz18_0); (try clear hcz18_1); (try clear hcz22_0); (try clear hcz22_1); (try clear hcz22_2); (try clear hcz22_3); (try clear hcz22_4); (try clear hcz25_0); (try clear hcz25_1); (try clear hcz29_0); (try clear hcz29_1); (try clear hcz29_2); (try clear hcz29_3); (try clear hcz29_4); (try clear hfz15_0); (try clear hfz15_1); (try clear hfz15_2); (try clear hfz15_3); (try clear hfz15_4); (try clear hfz18_0); (try clear hfz18_1); (try clear hfz22_0); (try clear hfz22_1); (try clear hfz22_2); (try clear hfz22_3); (try clear hfz22_4); (try clear hfz25_0); (try clear hfz25_1); (try clear hfz29_0); (try clear hfz29_1); (try clear hfz29_2); (try clear hfz29_3); (try clear hfz29_4)
  obtain ⟨kq, x20_3, rfl, HA, HJ3, BK134, BK135, BK136, HB⟩ := hcut
  cases kq with
  | zero => exact absurd HA.out (by simp [impl_Read.j0])
  | succ kj3 =>
   have H := HA.out
   clear HA
   simp only [impl_Read.j0] at H
   by_cases c31 : x20_3 = true
   ·subst c31
    have H1 : (some (0, 0)) = some (r1, r2) := by rw [if_pos rfl] at H; exact H
    clear H
    have H := H1
    clear H1
    simp only [Option.some.injEq, Prod.mk.injEq] at H
    obtain ⟨rfl, rfl⟩ := H
    have hnb32 := NB136_134.out
    have hnc32 := NB134_136.out
    have hnb33 := NB136_135.out
    have hnc33 := NB135_136.out
    obtain ⟨hcz34_0, hcz34_1, hfz34_0, hfz34_1⟩ := zs2 BK136
    go_wp2
    refine bodyPost_ret (results_cell_row rfl _ _ gb136 27 #[.int .i64 0, .int .i64 0] (0, 0) _ rfl (by (with_reducible repeat (first | refine blk_drewN ?_ _ | refine blk_drew ?_ | refine blk_alloc ?_ _)); refine blk_put (cs := #[.int .i64 0, .int .i64 0]) ?_ 1 _ rfl; (with_reducible repeat (first | refine blk_drewN ?_ _ | refine blk_drew ?_ | refine blk_alloc ?_ _)); refine blk_put (cs := #[.int .i64 0, .int .i64 0]) ?_ 0 _ rfl; (with_reducible repeat (first | refine blk_drewN ?_ _ | refine blk_drew ?_ | refine blk_alloc ?_ _)); exact BK136.out) Try.underlying27 rfl (by kernel_rfl)) rfl ?_
    exact ⟨by first | rfl | (simp [errW_none, errW_some] <;> rfl) | (simp [*, errW_none, errW_some] <;> rfl), by repeat (first | (with_reducible first | exact HB.out | apply below_alloc | apply pw_below_drewN | apply below_drew1 | refine below_set ?_ GE134.out | refine below_set ?_ GE135.out | refine below_set ?_ GE136.out) | exact HB.out)⟩
   ·replace c31 := Bool.eq_false_iff.mpr c31
    subst c31
    have H1 : ((impl_own.f a0_0 a0_1 a0_2 a0_3 a0_4 a2).bind fun bt140 => ((impl_Meets.f bt140.1 bt140.2 a1_0 a1_1).bind fun t143 => (if t143 = true then ((impl_Both.f bt140.1 bt140.2 a1_0 a1_1).bind fun bt144 => (some (bt144.1, bt144.2))) else (some (mn bt140.1 a1_0, mx bt140.2 a1_1))))) = some (r1, r2) := by rw [if_neg (show ¬ (false = true) by decide)] at H; exact H
    clear H
    have H := H1
    clear H1
    replace H := Option.bind_eq_some_iff.mp H
    obtain ⟨⟨t140, t141⟩, A350, H⟩ := H
    replace H : ((impl_Meets.f t140 t141 a1_0 a1_1).bind fun t143 => (if t143 = true then ((impl_Both.f t140 t141 a1_0 a1_1).bind fun bt144 => (some (bt144.1, bt144.2))) else (some (mn t140 a1_0, mx t141 a1_1)))) = some (r1, r2) := H
    have A35 := Aside0.mk A350
    clear A350
    replace H := Option.bind_eq_some_iff.mp H
    obtain ⟨t143, A360, H⟩ := H
    replace H : (if t143 = true then ((impl_Both.f t140 t141 a1_0 a1_1).bind fun bt144 => (some (bt144.1, bt144.2))) else (some (mn t140 a1_0, mx t141 a1_1))) = some (r1, r2) := H
    have A36 := Aside0.mk A360
    clear A360
    by_cases c37 : t143 = true
    ·subst c37
     have H1 : ((impl_Both.f t140 t141 a1_0 a1_1).bind fun bt144 => (some (bt144.1, bt144.2))) = some (r1, r2) := by rw [if_pos rfl] at H; exact H
     clear H
     have H := H1
     clear H1
     replace H := Option.bind_eq_some_iff.mp H
     obtain ⟨⟨t144, t145⟩, A380, H⟩ := H
     replace H : (some (t144, t145)) = some (r1, r2) := H
     have A38 := Aside0.mk A380
     clear A380
     simp only [Option.some.injEq, Prod.mk.injEq] at H
     obtain ⟨rfl, rfl⟩ := H
     have hnb39 := NB134_135.out
     have hnc39 := NB135_134.out
     have hnb40 := NB134_136.out
     have hnc40 := NB136_134.out
     obtain ⟨hcz41_0, hcz41_1, hcz41_2, hcz41_3, hcz41_4, hfz41_0, hfz41_1, hfz41_2, hfz41_3, hfz41_4⟩ := zs5 BK134
     go_wp2_with (first | ((with_reducible refine gate_callee (f := 95) rfl ?_); refine zL (some 24) Try.func95 #[.agg #[.int .i64 a0_0, .int .i64 a0_1, .int .i64 a0_2, .int .i64 a0_3, .int .i64 a0_4], .int .i64 a2] ?_; (with_reducible refine (impl_own.calls a0_0 a0_1 a0_2 a0_3 a0_4 a2 t140 t141 _ A35.out).mono ?_); rintro e w42 ⟨rfl, hb⟩; refine ⟨_, rfl, ?_⟩; replace BK134 := zb BK134 hb; replace BK135 := zb BK135 hb; replace BK136 := zb BK136 hb; replace HB := zB HB hb; (try clear hb)) | ((with_reducible refine gate_dst (N := 7) rfl ?_); refine zx 7 #[.int .i64 0, .int .i64 0] 27 ?_; intro gb142 hg w43 hbox hb; have BK142 := Aside0.mk (hbox); have GW142 := zge HB hg; have GE142 := GW142; have NB134_142 := zl BK134 hg; have NB142_134 := zg BK134 hg; have NB135_142 := zl BK135 hg; have NB142_135 := zg BK135 hg; have NB136_142 := zl BK136 hg; have NB142_136 := zg BK136 hg; replace BK134 := zb BK134 hb; replace BK135 := zb BK135 hb; replace BK136 := zb BK136 hb; replace HB := zB HB hb; clear hb hbox hg; have hnb44 := NB142_134.out; have hnc44 := NB134_142.out; have hnb45 := NB142_135.out; have hnc45 := NB135_142.out; have hnb46 := NB142_136.out; have hnc46 := NB136_142.out; obtain ⟨hcz47_0, hcz47_1, hfz47_0, hfz47_1⟩ := zs2 BK142; have hnb48 := NB135_136.out; have hnc48 := NB136_135.out; obtain ⟨hcz49_0, hcz49_1, hfz49_0, hfz49_1⟩ := zs2 BK135) | ((with_reducible refine gate_callee (f := 96) rfl ?_); refine zL (some 27) Try.func96 #[.agg #[.int .i64 t140, .int .i64 t141], .agg #[.int .i64 a1_0, .int .i64 a1_1]] ?_; (with_reducible refine (impl_Meets.calls t140 t141 a1_0 a1_1 true _ A36.out).mono ?_); rintro e w50 ⟨rfl, hb⟩; refine ⟨_, rfl, ?_⟩; have n0_ := Aside0.mk (blk_below (g := gb134) (o := .cells #[.int .i64 a0_0, .int .i64 a0_1, .int .i64 a0_2, .int .i64 a0_3, .int .i64 a0_4] 24 (0, 0)) (by (with_reducible repeat (first | refine blk_drewN ?_ _ | refine blk_drew ?_ | refine blk_alloc ?_ _)); refine blk_far ?_ NB134_142.out _; (with_reducible repeat (first | refine blk_drewN ?_ _ | refine blk_drew ?_ | refine blk_alloc ?_ _)); refine blk_far ?_ NB134_142.out _; (with_reducible repeat (first | refine blk_drewN ?_ _ | refine blk_drew ?_ | refine blk_alloc ?_ _)); exact BK134.out) hb); have n1_ := Aside0.mk (blk_below (g := gb135) (o := .cells #[.int .i64 a1_0, .int .i64 a1_1] 27 (0, 0)) (by (with_reducible repeat (first | refine blk_drewN ?_ _ | refine blk_drew ?_ | refine blk_alloc ?_ _)); refine blk_far ?_ NB135_142.out _; (with_reducible repeat (first | refine blk_drewN ?_ _ | refine blk_drew ?_ | refine blk_alloc ?_ _)); refine blk_far ?_ NB135_142.out _; (with_reducible repeat (first | refine blk_drewN ?_ _ | refine blk_drew ?_ | refine blk_alloc ?_ _)); exact BK135.out) hb); have n2_ := Aside0.mk (blk_below (g := gb136) (o := .cells #[.int .i64 0, .int .i64 0] 27 (0, 0)) (by (with_reducible repeat (first | refine blk_drewN ?_ _ | refine blk_drew ?_ | refine blk_alloc ?_ _)); refine blk_far ?_ NB136_142.out _; (with_reducible repeat (first | refine blk_drewN ?_ _ | refine blk_drew ?_ | refine blk_alloc ?_ _)); refine blk_far ?_ NB136_142.out _; (with_reducible repeat (first | refine blk_drewN ?_ _ | refine blk_drew ?_ | refine blk_alloc ?_ _)); exact BK136.out) hb); have n3_ := Aside0.mk (blk_below (g := gb142) (o := .cells #[.int .i64 t140, .int .i64 t141] 27 (0, 0)) (by (with_reducible repeat (first | refine blk_drewN ?_ _ | refine blk_drew ?_ | refine blk_alloc ?_ _)); refine blk_put (cs := #[.int .i64 t140, .int .i64 0]) ?_ 1 _ rfl; (with_reducible repeat (first | refine blk_drewN ?_ _ | refine blk_drew ?_ | refine blk_alloc ?_ _)); refine blk_put (cs := #[.int .i64 0, .int .i64 0]) ?_ 0 _ rfl; (with_reducible repeat (first | refine blk_drewN ?_ _ | refine blk_drew ?_ | refine blk_alloc ?_ _)); exact BK142.out) hb); have n4_ := Aside0.mk (below_step (by repeat (first | (with_reducible first | exact HB.out | apply below_alloc | apply pw_below_drewN | apply below_drew1 | refine below_set ?_ GE134.out | refine below_set ?_ GE135.out | refine below_set ?_ GE136.out | refine below_set ?_ GE142.out) | exact HB.out)) hb); clear BK134 BK135 BK136 BK142 HB; have BK134 := n0_; have BK135 := n1_; have BK136 := n2_; have BK142 := n3_; have HB := n4_; clear n0_ n1_ n2_ n3_ n4_; (try clear hb); obtain ⟨hcz51_0, hcz51_1, hfz51_0, hfz51_1⟩ := zs2 BK142; obtain ⟨hcz52_0, hcz52_1, hfz52_0, hfz52_1⟩ := zs2 BK135) | ((with_reducible refine gate_callee (f := 101) rfl ?_); refine zL (some 30) Try.func101 #[.agg #[.int .i64 t140, .int .i64 t141], .agg #[.int .i64 a1_0, .int .i64 a1_1]] ?_; (with_reducible refine (impl_Both.calls t140 t141 a1_0 a1_1 t144 t145 _ A38.out).mono ?_); rintro e w53 ⟨rfl, hb⟩; refine ⟨_, rfl, ?_⟩; replace BK134 := zb BK134 hb; replace BK135 := zb BK135 hb; replace BK136 := zb BK136 hb; replace BK142 := zb BK142 hb; replace HB := zB HB hb; (try clear hb); obtain ⟨hcz54_0, hcz54_1, hfz54_0, hfz54_1⟩ := zs2 BK136))
     refine bodyPost_ret (results_cell_row rfl _ _ gb136 27 #[.int .i64 t144, .int .i64 t145] (0, 0) _ rfl (by (with_reducible repeat (first | refine blk_drewN ?_ _ | refine blk_drew ?_ | refine blk_alloc ?_ _)); refine blk_put (cs := #[.int .i64 t144, .int .i64 0]) ?_ 1 _ rfl; (with_reducible repeat (first | refine blk_drewN ?_ _ | refine blk_drew ?_ | refine blk_alloc ?_ _)); refine blk_put (cs := #[.int .i64 0, .int .i64 0]) ?_ 0 _ rfl; (with_reducible repeat (first | refine blk_drewN ?_ _ | refine blk_drew ?_ | refine blk_alloc ?_ _)); exact BK136.out) Try.underlying27 rfl (by kernel_rfl)) rfl ?_
     exact ⟨by first | rfl | (simp [errW_none, errW_some] <;> rfl) | (simp [*, errW_none, errW_some] <;> rfl), by repeat (first | (with_reducible first | exact HB.out | apply below_alloc | apply pw_below_drewN | apply below_drew1 | refine below_set ?_ GE134.out | refine below_set ?_ GE135.out | refine below_set ?_ GE136.out | refine below_set ?_ GE142.out) | exact HB.out)⟩
    ·replace c37 := Bool.eq_false_iff.mpr c37
     subst c37
     have H1 : (some (mn t140 a1_0, mx t141 a1_1)) = some (r1, r2) := by rw [if_neg (show ¬ (false = true) by decide)] at H; exact H
     clear H
     have H := H1
     clear H1
     obtain ⟨ji55, hji55⟩ : ∃ j_ : Int, (mn t140 a1_0) = j_ := ⟨_, rfl⟩
     replace H : (some (ji55, mx t141 a1_1)) = some (r1, r2) := by first | (rw [hji55] at H; exact H) | (simp only [hji55] at H ⊢; exact H)
     (try rw [hji55] at A35)
     (try rw [hji55] at A36)
     have hji55_ : (if a1_0 < t140 then a1_0 else t140) = ji55 := hji55
     obtain ⟨ji56, hji56⟩ : ∃ j_ : Int, (mx t141 a1_1) = j_ := ⟨_, rfl⟩
     replace H : (some (ji55, ji56)) = some (r1, r2) := by first | (rw [hji56] at H; exact H) | (simp only [hji56] at H ⊢; exact H)
     (try rw [hji56] at A35)
     (try rw [hji56] at A36)
     have hji56_ : (if t141 < a1_1 then a1_1 else t141) = ji56 := hji56
     simp only [Option.some.injEq, Prod.mk.injEq] at H
     obtain ⟨rfl, rfl⟩ := H
     have hnb57 := NB134_135.out
     have hnc57 := NB135_134.out
     have hnb58 := NB134_136.out
     have hnc58 := NB136_134.out
     obtain ⟨hcz59_0, hcz59_1, hcz59_2, hcz59_3, hcz59_4, hfz59_0, hfz59_1, hfz59_2, hfz59_3, hfz59_4⟩ := zs5 BK134
     go_wp2_with (first | ((with_reducible refine gate_callee (f := 95) rfl ?_); refine zL (some 24) Try.func95 #[.agg #[.int .i64 a0_0, .int .i64 a0_1, .int .i64 a0_2, .int .i64 a0_3, .int .i64 a0_4], .int .i64 a2] ?_; (with_reducible refine (impl_own.calls a0_0 a0_1 a0_2 a0_3 a0_4 a2 t140 t141 _ A35.out).mono ?_); rintro e w60 ⟨rfl, hb⟩; refine ⟨_, rfl, ?_⟩; replace BK134 := zb BK134 hb; replace BK135 := zb BK135 hb; replace BK136 := zb BK136 hb; replace HB := zB HB hb; (try clear hb)) | ((with_reducible refine gate_dst (N := 7) rfl ?_); refine zx 7 #[.int .i64 0, .int .i64 0] 27 ?_; intro gb142 hg w61 hbox hb; have BK142 := Aside0.mk (hbox); have GW142 := zge HB hg; have GE142 := GW142; have NB134_142 := zl BK134 hg; have NB142_134 := zg BK134 hg; have NB135_142 := zl BK135 hg; have NB142_135 := zg BK135 hg; have NB136_142 := zl BK136 hg; have NB142_136 := zg BK136 hg; replace BK134 := zb BK134 hb; replace BK135 := zb BK135 hb; replace BK136 := zb BK136 hb; replace HB := zB HB hb; clear hb hbox hg; have hnb62 := NB142_134.out; have hnc62 := NB134_142.out; have hnb63 := NB142_135.out; have hnc63 := NB135_142.out; have hnb64 := NB142_136.out; have hnc64 := NB136_142.out; obtain ⟨hcz65_0, hcz65_1, hfz65_0, hfz65_1⟩ := zs2 BK142; have hnb66 := NB135_136.out; have hnc66 := NB136_135.out; obtain ⟨hcz67_0, hcz67_1, hfz67_0, hfz67_1⟩ := zs2 BK135) | ((with_reducible refine gate_callee (f := 96) rfl ?_); refine zL (some 27) Try.func96 #[.agg #[.int .i64 t140, .int .i64 t141], .agg #[.int .i64 a1_0, .int .i64 a1_1]] ?_; (with_reducible refine (impl_Meets.calls t140 t141 a1_0 a1_1 false _ A36.out).mono ?_); rintro e w68 ⟨rfl, hb⟩; refine ⟨_, rfl, ?_⟩; have n0_ := Aside0.mk (blk_below (g := gb134) (o := .cells #[.int .i64 a0_0, .int .i64 a0_1, .int .i64 a0_2, .int .i64 a0_3, .int .i64 a0_4] 24 (0, 0)) (by (with_reducible repeat (first | refine blk_drewN ?_ _ | refine blk_drew ?_ | refine blk_alloc ?_ _)); refine blk_far ?_ NB134_142.out _; (with_reducible repeat (first | refine blk_drewN ?_ _ | refine blk_drew ?_ | refine blk_alloc ?_ _)); refine blk_far ?_ NB134_142.out _; (with_reducible repeat (first | refine blk_drewN ?_ _ | refine blk_drew ?_ | refine blk_alloc ?_ _)); exact BK134.out) hb); have n1_ := Aside0.mk (blk_below (g := gb135) (o := .cells #[.int .i64 a1_0, .int .i64 a1_1] 27 (0, 0)) (by (with_reducible repeat (first | refine blk_drewN ?_ _ | refine blk_drew ?_ | refine blk_alloc ?_ _)); refine blk_far ?_ NB135_142.out _; (with_reducible repeat (first | refine blk_drewN ?_ _ | refine blk_drew ?_ | refine blk_alloc ?_ _)); refine blk_far ?_ NB135_142.out _; (with_reducible repeat (first | refine blk_drewN ?_ _ | refine blk_drew ?_ | refine blk_alloc ?_ _)); exact BK135.out) hb); have n2_ := Aside0.mk (blk_below (g := gb136) (o := .cells #[.int .i64 0, .int .i64 0] 27 (0, 0)) (by (with_reducible repeat (first | refine blk_drewN ?_ _ | refine blk_drew ?_ | refine blk_alloc ?_ _)); refine blk_far ?_ NB136_142.out _; (with_reducible repeat (first | refine blk_drewN ?_ _ | refine blk_drew ?_ | refine blk_alloc ?_ _)); refine blk_far ?_ NB136_142.out _; (with_reducible repeat (first | refine blk_drewN ?_ _ | refine blk_drew ?_ | refine blk_alloc ?_ _)); exact BK136.out) hb); have n3_ := Aside0.mk (blk_below (g := gb142) (o := .cells #[.int .i64 t140, .int .i64 t141] 27 (0, 0)) (by (with_reducible repeat (first | refine blk_drewN ?_ _ | refine blk_drew ?_ | refine blk_alloc ?_ _)); refine blk_put (cs := #[.int .i64 t140, .int .i64 0]) ?_ 1 _ rfl; (with_reducible repeat (first | refine blk_drewN ?_ _ | refine blk_drew ?_ | refine blk_alloc ?_ _)); refine blk_put (cs := #[.int .i64 0, .int .i64 0]) ?_ 0 _ rfl; (with_reducible repeat (first | refine blk_drewN ?_ _ | refine blk_drew ?_ | refine blk_alloc ?_ _)); exact BK142.out) hb); have n4_ := Aside0.mk (below_step (by repeat (first | (with_reducible first | exact HB.out | apply below_alloc | apply pw_below_drewN | apply below_drew1 | refine below_set ?_ GE134.out | refine below_set ?_ GE135.out | refine below_set ?_ GE136.out | refine below_set ?_ GE142.out) | exact HB.out)) hb); clear BK134 BK135 BK136 BK142 HB; have BK134 := n0_; have BK135 := n1_; have BK136 := n2_; have BK142 := n3_; have HB := n4_; clear n0_ n1_ n2_ n3_ n4_; (try clear hb); obtain ⟨hcz69_0, hcz69_1, hfz69_0, hfz69_1⟩ := zs2 BK142; obtain ⟨hcz70_0, hcz70_1, hfz70_0, hfz70_1⟩ := zs2 BK135; obtain ⟨hcz71_0, hcz71_1, hfz71_0, hfz71_1⟩ := zs2 BK136))
     refine bodyPost_ret (results_cell_row rfl _ _ gb136 27 #[.int .i64 ji55, .int .i64 ji56] (0, 0) _ rfl (by (with_reducible repeat (first | refine blk_drewN ?_ _ | refine blk_drew ?_ | refine blk_alloc ?_ _)); refine blk_put (cs := #[.int .i64 ji55, .int .i64 0]) ?_ 1 _ rfl; (with_reducible repeat (first | refine blk_drewN ?_ _ | refine blk_drew ?_ | refine blk_alloc ?_ _)); refine blk_put (cs := #[.int .i64 0, .int .i64 0]) ?_ 0 _ rfl; (with_reducible repeat (first | refine blk_drewN ?_ _ | refine blk_drew ?_ | refine blk_alloc ?_ _)); exact BK136.out) Try.underlying27 rfl (by kernel_rfl)) rfl ?_
     exact ⟨by first | rfl | (simp [errW_none, errW_some] <;> rfl) | (simp only [← hji55, ← hji56]; first | rfl | (simp [errW_none, errW_some] <;> rfl)) | (simp [*, errW_none, errW_some] <;> rfl), by repeat (first | (with_reducible first | exact HB.out | apply below_alloc | apply pw_below_drewN | apply below_drew1 | refine below_set ?_ GE134.out | refine below_set ?_ GE135.out | refine below_set ?_ GE136.out | refine below_set ?_ GE142.out) | exact HB.out)⟩

end Go.Proofs.Ytommdabkkgcgbaa.QFnTrue
