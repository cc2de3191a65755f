-- Written by a program of this session (wip/tools/turnprint.py over the kit's print), for this claim: functions as plain Lean and their contracts.
import Derived.Test.YtommdabkkgcgbaaQFnReadx0
import Derived.Test.YtommdabkkgcgbaaQFnReadx7
import Derived.Test.YtommdabkkgcgbaaQFnReadx8
import Derived.Test.YtommdabkkgcgbaaQFnReadx9
namespace Go.Proofs.Ytommdabkkgcgbaa.QFnRead
open Go.RowKit Go.Proofs.YtommdabkkgcgbaaW.PrintWords Go.Proofs.YtommdabkkgcgbaaW.PrintLast Go.Proofs.YtommdabkkgcgbaaW.PrintMore
attribute [local go_sem] max2_int min2_int max_two min_two max_three min_three max_four min_four   -- for this text's walks alone
set_option linter.unusedVariables false
set_option linter.unusedSimpArgs false

/-! ### spec_Read: function 73 -/
def spec_Read.j0 : Nat → Int → Bool → Int → Int → Int → Int → Int → Int → Int → Option (Int × Int)
 | 0, _, _, _, _, _, _, _, _, _ => none
 | k + 1, x2, x16, x304000, x304001, x304002, x304003, x304004, x305000, x305001 => if x16 = true then (some (0, 0)) else ((spec_l1clip.f k (wrap64 (x2 - x304002)) (wrap64 (x2 + x304002))).bind fun bt308 => ((spec_Meets.f x305000 x305001 bt308.1 bt308.2).bind fun t311 => (if t311 = true then ((spec_Both.f x305000 x305001 bt308.1 bt308.2).bind fun bt312 => (some (bt312.1, bt312.2))) else (if bt308.1 < x305000 then (if bt308.2 > x305001 then (some (bt308.1, bt308.2)) else (some (bt308.1, x305001))) else (if bt308.2 > x305001 then (some (x305000, bt308.2)) else (some (x305000, x305001)))))))
def spec_Read.f (k : Nat) (a0_0 : Int) (a0_1 : Int) (a0_2 : Int) (a0_3 : Int) (a0_4 : Int) (a1_0 : Int) (a1_1 : Int) (a2 : Int) : Option (Int × Int) := (spec_l1good.f a0_0 a0_1 a0_2 a0_3 a0_4 a1_0 a1_1).bind fun t306 => (if t306 = true then ((spec_l1in.f a2 0 100000000).bind fun t307 => (spec_Read.j0 k a2 (!t307) a0_0 a0_1 a0_2 a0_3 a0_4 a1_0 a1_1)) else (spec_Read.j0 k a2 true a0_0 a0_1 a0_2 a0_3 a0_4 a1_0 a1_1))
theorem spec_Read.mono_l : ∀ k, (∀ y0 y1 y2 y3 y4 y5 y6 y7 y8, LeO (spec_Read.j0 k y0 y1 y2 y3 y4 y5 y6 y7 y8) (spec_Read.j0 (k + 1) y0 y1 y2 y3 y4 y5 y6 y7 y8))
 | 0 => fun _ _ _ _ _ _ _ _ _ r h => by simp [spec_Read.j0] at h
 | k + 1 => by
  have ih0 := spec_Read.mono_l k
  ·intro y0 y1 y2 y3 y4 y5 y6 y7 y8
   unfold spec_Read.j0
   repeat' first
   | (with_reducible exact ih0 _ _ _ _ _ _ _ _ _)
   | (with_reducible exact spec_l1clip.mono _ _ _)
   | (with_reducible exact LeO.refl _)
   | (with_reducible exact LeO.none _)
   | (with_reducible refine LeO.ite ?_ ?_)
   | (with_reducible refine LeO.bind ?_ (fun _ => ?_))
   | exact ih0 _ _ _ _ _ _ _ _ _
   | exact spec_l1clip.mono _ _ _
   | exact LeO.none _
   | refine LeO.ite ?_ ?_
   | refine LeO.bind ?_ (fun _ => ?_)
theorem spec_Read.mono : ∀ a0 a1 a2 a3 a4 a5 a6 a7 k, LeO (spec_Read.f k a0 a1 a2 a3 a4 a5 a6 a7) (spec_Read.f (k + 1) a0 a1 a2 a3 a4 a5 a6 a7) := by
 intro a0 a1 a2 a3 a4 a5 a6 a7 k
 have ih0 := spec_Read.mono_l k
 unfold spec_Read.f
 repeat' first
   | (with_reducible exact ih0 _ _ _ _ _ _ _ _ _)
   | (with_reducible exact spec_l1clip.mono _ _ _)
   | (with_reducible exact LeO.refl _)
   | (with_reducible exact LeO.none _)
   | (with_reducible refine LeO.ite ?_ ?_)
   | (with_reducible refine LeO.bind ?_ (fun _ => ?_))
   | exact ih0 _ _ _ _ _ _ _ _ _
   | exact spec_l1clip.mono _ _ _
   | exact LeO.none _
   | refine LeO.ite ?_ ?_
   | refine LeO.bind ?_ (fun _ => ?_)
set_option maxHeartbeats 8000000 in
set_option maxRecDepth 100000 in
theorem spec_Read.calls (k : Nat) (a0_0 : Int) (a0_1 : Int) (a0_2 : Int) (a0_3 : Int) (a0_4 : Int) (a1_0 : Int) (a1_1 : Int) (a2 : Int) (r1 : Int) (r2 : Int) (w : World) (h : spec_Read.f k a0_0 a0_1 a0_2 a0_3 a0_4 a1_0 a1_1 a2 = some (r1, r2)) :
  Calls Try.prog 73 #[.agg #[.int .i64 a0_0, .int .i64 a0_1, .int .i64 a0_2, .int .i64 a0_3, .int .i64 a0_4], .agg #[.int .i64 a1_0, .int .i64 a1_1], .int .i64 a2] w fun e w' => e = .returned (.agg #[.int .i64 r1, .int .i64 r2]) ∧ Below w.heap.size w w' := by
 have hu24 := Try.underlying24
 have hu27 := Try.underlying27
 have HB := Aside0.mk (Below.refl w.heap.size w)
 have H : ((spec_l1good.f a0_0 a0_1 a0_2 a0_3 a0_4 a1_0 a1_1).bind fun t306 => (if t306 = true then ((spec_l1in.f a2 0 100000000).bind fun t307 => (spec_Read.j0 k a2 (!t307) a0_0 a0_1 a0_2 a0_3 a0_4 a1_0 a1_1)) else (spec_Read.j0 k a2 true a0_0 a0_1 a0_2 a0_3 a0_4 a1_0 a1_1))) = some (r1, r2) := h
 clear h
 have HC4 := Aside0.mk H
 clear H
 go_enter Try.func73, Try.ntmps73
 go_upto_region 1 with (first | ((with_reducible refine gate_dst (N := 3) rfl ?_); refine zx 3 #[.int .i64 a0_0, .int .i64 a0_1, .int .i64 a0_2, .int .i64 a0_3, .int .i64 a0_4] 24 ?_; intro gb303 hg w5 hbox hb; have BK303 := Aside0.mk (hbox); have GW303 := zge HB hg; have GE303 := GW303; replace HB := zB HB hb; clear hb hbox hg) | ((with_reducible refine gate_dst (N := 4) rfl ?_); refine zx 4 #[.int .i64 a1_0, .int .i64 a1_1] 27 ?_; intro gb304 hg w6 hbox hb; have BK304 := Aside0.mk (hbox); have GW304 := zge HB hg; have GE304 := GW304; have NB303_304 := zl BK303 hg; have NB304_303 := zg BK303 hg; replace BK303 := zb BK303 hb; replace HB := zB HB hb; clear hb hbox hg) | ((with_reducible refine gate_dst (N := 6) rfl ?_); refine zx 6 #[.int .i64 0, .int .i64 0] 27 ?_; intro gb305 hg w7 hbox hb; have BK305 := Aside0.mk (hbox); have GW305 := zge HB hg; have GE305 := GW305; have NB303_305 := zl BK303 hg; have NB305_303 := zg BK303 hg; have NB304_305 := zl BK304 hg; have NB305_304 := zg BK304 hg; replace BK303 := zb BK303 hb; replace BK304 := zb BK304 hb; replace HB := zB HB hb; clear hb hbox hg))
 (try simp only [Act.put, List.setIfInBounds_toArray, List.set_cons_zero, List.set_cons_succ])
 go_cut [16] (fun v16 wc => ∃ (kq : Nat) (x16_3 : Bool), v16 = .bool x16_3 ∧ Aside0 (spec_Read.j0 kq a2 x16_3 a0_0 a0_1 a0_2 a0_3 a0_4 a1_0 a1_1 = some (r1, r2)) ∧ Aside0 (kq ≤ k) ∧ Aside0 (wc.heap[gb303]? = some (.cells #[.int .i64 a0_0, .int .i64 a0_1, .int .i64 a0_2, .int .i64 a0_3, .int .i64 a0_4] 24 (0, 0))) ∧ Aside0 (wc.heap[gb304]? = some (.cells #[.int .i64 a1_0, .int .i64 a1_1] 27 (0, 0))) ∧ Aside0 (wc.heap[gb305]? = some (.cells #[.int .i64 0, .int .i64 0] 27 (0, 0))) ∧ Aside0 (Below w.heap.size w wc))
 case first =>
  have H := HC4.out
  clear HC4
  replace H := Option.bind_eq_some_iff.mp H
  obtain ⟨t306, A80, H⟩ := H
  replace H : (if t306 = true then ((spec_l1in.f a2 0 100000000).bind fun t307 => (spec_Read.j0 k a2 (!t307) a0_0 a0_1 a0_2 a0_3 a0_4 a1_0 a1_1)) else (spec_Read.j0 k a2 true a0_0 a0_1 a0_2 a0_3 a0_4 a1_0 a1_1)) = some (r1, r2) := H
  have A8 := Aside0.mk A80
  clear A80
  by_cases c9 : t306 = true
  ·subst c9
   have H1 : ((spec_l1in.f a2 0 100000000).bind fun t307 => (spec_Read.j0 k a2 (!t307) a0_0 a0_1 a0_2 a0_3 a0_4 a1_0 a1_1)) = some (r1, r2) := by rw [if_pos rfl] at H; exact H
   clear H
   have H := H1
   clear H1
   replace H := Option.bind_eq_some_iff.mp H
   obtain ⟨t307, A100, H⟩ := H
   replace H : (spec_Read.j0 k a2 (!t307) a0_0 a0_1 a0_2 a0_3 a0_4 a1_0 a1_1) = some (r1, r2) := H
   have A10 := Aside0.mk A100
   clear A100
   have H' := Aside0.mk H
   clear H
   have hnb11 := NB303_304.out
   have hnc11 := NB304_303.out
   have hnb12 := NB303_305.out
   have hnc12 := NB305_303.out
   obtain ⟨hcz13_0, hcz13_1, hcz13_2, hcz13_3, hcz13_4, hfz13_0, hfz13_1, hfz13_2, hfz13_3, hfz13_4⟩ := zs5 BK303
   have hnb14 := NB304_305.out
   have hnc14 := NB305_304.out
   obtain ⟨hcz15_0, hcz15_1, hfz15_0, hfz15_1⟩ := zs2 BK304
   go_wp2_with (first | ((with_reducible refine gate_callee (f := 77) rfl ?_); refine zL (some 10) Try.func77 #[.agg #[.int .i64 a0_0, .int .i64 a0_1, .int .i64 a0_2, .int .i64 a0_3, .int .i64 a0_4], .agg #[.int .i64 a1_0, .int .i64 a1_1]] ?_; (with_reducible refine (spec_l1good.calls a0_0 a0_1 a0_2 a0_3 a0_4 a1_0 a1_1 true _ A8.out).mono ?_); rintro e w16 ⟨rfl, hb⟩; refine ⟨_, rfl, ?_⟩; replace BK303 := zb BK303 hb; replace BK304 := zb BK304 hb; replace BK305 := zb BK305 hb; replace HB := zB HB hb; (try clear hb)) | (go_at_call 80; (with_reducible refine (spec_l1in.calls a2 0 100000000 t307 _ A10.out).mono ?_); rintro e w' ⟨rfl, ⟨nd, rfl⟩⟩))
   go_meet
   case rel => exact ⟨_, (!t307), ze, H', ⟨by first | omega | exact Nat.le_refl _⟩, ⟨zy BK303⟩, ⟨zy BK304⟩, ⟨zy BK305⟩, ⟨by repeat (first | (with_reducible first | exact HB.out | apply below_alloc | apply pw_below_drewN | apply below_drew1 | refine below_set ?_ GE303.out | refine below_set ?_ GE304.out | refine below_set ?_ GE305.out) | exact HB.out)⟩⟩
  ·replace c9 := Bool.eq_false_iff.mpr c9
   subst c9
   have H1 : (spec_Read.j0 k a2 true a0_0 a0_1 a0_2 a0_3 a0_4 a1_0 a1_1) = some (r1, r2) := by rw [if_neg (show ¬ (false = true) by decide)] at H; exact H
   clear H
   have H := H1
   clear H1
   have H' := Aside0.mk H
   clear H
   have hnb17 := NB303_304.out
   have hnc17 := NB304_303.out
   have hnb18 := NB303_305.out
   have hnc18 := NB305_303.out
   obtain ⟨hcz19_0, hcz19_1, hcz19_2, hcz19_3, hcz19_4, hfz19_0, hfz19_1, hfz19_2, hfz19_3, hfz19_4⟩ := zs5 BK303
   have hnb20 := NB304_305.out
   have hnc20 := NB305_304.out
   obtain ⟨hcz21_0, hcz21_1, hfz21_0, hfz21_1⟩ := zs2 BK304
   go_wp2_with (first | ((with_reducible refine gate_callee (f := 77) rfl ?_); refine zL (some 10) Try.func77 #[.agg #[.int .i64 a0_0, .int .i64 a0_1, .int .i64 a0_2, .int .i64 a0_3, .int .i64 a0_4], .agg #[.int .i64 a1_0, .int .i64 a1_1]] ?_; (with_reducible refine (spec_l1good.calls a0_0 a0_1 a0_2 a0_3 a0_4 a1_0 a1_1 false _ A8.out).mono ?_); rintro e w22 ⟨rfl, hb⟩; refine ⟨_, rfl, ?_⟩; replace BK303 := zb BK303 hb; replace BK304 := zb BK304 hb; replace BK305 := zb BK305 hb; replace HB := zB HB hb; (try clear hb)))
   go_meet
   case rel => exact ⟨_, (true), ze, H', ⟨by first | omega | exact Nat.le_refl _⟩, ⟨zy BK303⟩, ⟨zy BK304⟩, ⟨zy BK305⟩, ⟨by repeat (first | (with_reducible first | exact HB.out | apply below_alloc | apply pw_below_drewN | apply below_drew1 | refine below_set ?_ GE303.out | refine below_set ?_ GE304.out | refine below_set ?_ GE305.out) | exact HB.out)⟩⟩
 case rest =>
  clear HC4
  (try clear c1); (try clear c2); (try clear p2); (try clear c7); (try clear c9); (try clear c11); (try clear c12); (try clear c14); (try clear c17); (try clear c18); (try clear c20); (try clear hcz13_0); (try clear hcz13_1); (try clear hcz13_2); (try clear hcz13_3); (try clear hcz13_4); (try clear hcz15_0); (try clear hcz15_1); (try clear hcz19_0); (try clear hcz19_1); (try clear hcz19_2); (try clear hcz19_3); (try clear hcz19_4); (try clear hcz21_0); (try clear hcz21_1); (try clear hfz13_0); (try clear hfz13_1); (try clear hfz13_2); (try clear hfz13_3); (try clear hfz13_4); (try clear hfz15_0); (try clear hfz15_1); (try clear hfz19_0); (try clear hfz19_1); (try clear hfz19_2); (try clear hfz19_3); (try clear hfz19_4); (try clear hfz21_0); (try clear hfz21_1)
  obtain ⟨kq, x16_3, rfl, HA, HJ3, BK303, BK304, BK305, HB⟩ := hcut
  cases kq with
  | zero => exact absurd HA.out (by simp [spec_Read.j0])
  | succ kj3 =>
   have H := HA.out
   clear HA
   simp only [spec_Read.j0] at H
   by_cases c23 : x16_3 = true
   ·subst c23
    have H1 : (some (0, 0)) = some (r1, r2) := by rw [if_pos rfl] at H; exact H
    clear H
    have H := H1
    clear H1
    simp only [Option.some.injEq, Prod.mk.injEq] at H
    obtain ⟨rfl, rfl⟩ := H
    have hnb24 := NB305_303.out
    have hnc24 := NB303_305.out
    have hnb25 := NB305_304.out
    have hnc25 := NB304_305.out
    obtain ⟨hcz26_0, hcz26_1, hfz26_0, hfz26_1⟩ := zs2 BK305
    go_wp2
    refine bodyPost_ret (results_cell_row rfl _ _ gb305 27 #[.int .i64 0, .int .i64 0] (0, 0) _ rfl (by (with_reducible repeat (first | refine blk_drewN ?_ _ | refine blk_drew ?_ | refine blk_alloc ?_ _)); refine blk_put (cs := #[.int .i64 0, .int .i64 0]) ?_ 1 _ rfl; (with_reducible repeat (first | refine blk_drewN ?_ _ | refine blk_drew ?_ | refine blk_alloc ?_ _)); refine blk_put (cs := #[.int .i64 0, .int .i64 0]) ?_ 0 _ rfl; (with_reducible repeat (first | refine blk_drewN ?_ _ | refine blk_drew ?_ | refine blk_alloc ?_ _)); exact BK305.out) Try.underlying27 rfl (by kernel_rfl)) rfl ?_
    exact ⟨by first | rfl | (simp [errW_none, errW_some] <;> rfl) | (simp [*, errW_none, errW_some] <;> rfl), by repeat (first | (with_reducible first | exact HB.out | apply below_alloc | apply pw_below_drewN | apply below_drew1 | refine below_set ?_ GE303.out | refine below_set ?_ GE304.out | refine below_set ?_ GE305.out) | exact HB.out)⟩
   ·replace c23 := Bool.eq_false_iff.mpr c23
    subst c23
    have H1 : ((spec_l1clip.f kj3 (wrap64 (a2 - a0_2)) (wrap64 (a2 + a0_2))).bind fun bt308 => ((spec_Meets.f a1_0 a1_1 bt308.1 bt308.2).bind fun t311 => (if t311 = true then ((spec_Both.f a1_0 a1_1 bt308.1 bt308.2).bind fun bt312 => (some (bt312.1, bt312.2))) else (if bt308.1 < a1_0 then (if bt308.2 > a1_1 then (some (bt308.1, bt308.2)) else (some (bt308.1, a1_1))) else (if bt308.2 > a1_1 then (some (a1_0, bt308.2)) else (some (a1_0, a1_1))))))) = some (r1, r2) := by rw [if_neg (show ¬ (false = true) by decide)] at H; exact H
    clear H
    have H := H1
    clear H1
    replace H := Option.bind_eq_some_iff.mp H
    obtain ⟨⟨t308, t309⟩, A270, H⟩ := H
    replace H : ((spec_Meets.f a1_0 a1_1 t308 t309).bind fun t311 => (if t311 = true then ((spec_Both.f a1_0 a1_1 t308 t309).bind fun bt312 => (some (bt312.1, bt312.2))) else (if t308 < a1_0 then (if t309 > a1_1 then (some (t308, t309)) else (some (t308, a1_1))) else (if t309 > a1_1 then (some (a1_0, t309)) else (some (a1_0, a1_1)))))) = some (r1, r2) := H
    have A27 := Aside0.mk A270
    clear A270
    replace H := Option.bind_eq_some_iff.mp H
    obtain ⟨t311, A280, H⟩ := H
    replace H : (if t311 = true then ((spec_Both.f a1_0 a1_1 t308 t309).bind fun bt312 => (some (bt312.1, bt312.2))) else (if t308 < a1_0 then (if t309 > a1_1 then (some (t308, t309)) else (some (t308, a1_1))) else (if t309 > a1_1 then (some (a1_0, t309)) else (some (a1_0, a1_1))))) = some (r1, r2) := H
    have A28 := Aside0.mk A280
    clear A280
    by_cases c29 : t311 = true
    ·subst c29
     have H1 : ((spec_Both.f a1_0 a1_1 t308 t309).bind fun bt312 => (some (bt312.1, bt312.2))) = some (r1, r2) := by rw [if_pos rfl] at H; exact H
     clear H
     have H := H1
     clear H1
     replace H := Option.bind_eq_some_iff.mp H
     obtain ⟨⟨t312, t313⟩, A300, H⟩ := H
     replace H : (some (t312, t313)) = some (r1, r2) := H
     have A30 := Aside0.mk A300
     clear A300
     simp only [Option.some.injEq, Prod.mk.injEq] at H
     obtain ⟨rfl, rfl⟩ := H
     have hnb31 := NB303_304.out
     have hnc31 := NB304_303.out
     have hnb32 := NB303_305.out
     have hnc32 := NB305_303.out
     obtain ⟨hcz33_0, hcz33_1, hcz33_2, hcz33_3, hcz33_4, hfz33_0, hfz33_1, hfz33_2, hfz33_3, hfz33_4⟩ := zs5 BK303
     go_wp2_with (first | ((with_reducible refine gate_callee (f := 71) rfl ?_); refine zL (some 27) Try.func71 #[.agg #[.int .i64 (wrap64 (a2 - a0_2)), .int .i64 (wrap64 (a2 + a0_2))]] ?_; (with_reducible refine (spec_l1clip.calls kj3 (wrap64 (a2 - a0_2)) (wrap64 (a2 + a0_2)) t308 t309 _ A27.out).mono ?_); rintro e w34 ⟨rfl, hb⟩; refine ⟨_, rfl, ?_⟩; replace BK303 := zb BK303 hb; replace BK304 := zb BK304 hb; replace BK305 := zb BK305 hb; replace HB := zB HB hb; (try clear hb)) | ((with_reducible refine gate_dst (N := 7) rfl ?_); refine zx 7 #[.int .i64 0, .int .i64 0] 27 ?_; intro gb310 hg w35 hbox hb; have BK310 := Aside0.mk (hbox); have GW310 := zge HB hg; have GE310 := GW310; have NB303_310 := zl BK303 hg; have NB310_303 := zg BK303 hg; have NB304_310 := zl BK304 hg; have NB310_304 := zg BK304 hg; have NB305_310 := zl BK305 hg; have NB310_305 := zg BK305 hg; replace BK303 := zb BK303 hb; replace BK304 := zb BK304 hb; replace BK305 := zb BK305 hb; replace HB := zB HB hb; clear hb hbox hg; have hnb36 := NB310_303.out; have hnc36 := NB303_310.out; have hnb37 := NB310_304.out; have hnc37 := NB304_310.out; have hnb38 := NB310_305.out; have hnc38 := NB305_310.out; obtain ⟨hcz39_0, hcz39_1, hfz39_0, hfz39_1⟩ := zs2 BK310; have hnb40 := NB304_305.out; have hnc40 := NB305_304.out; obtain ⟨hcz41_0, hcz41_1, hfz41_0, hfz41_1⟩ := zs2 BK304) | ((with_reducible refine gate_callee (f := 72) rfl ?_); refine zL (some 30) Try.func72 #[.agg #[.int .i64 a1_0, .int .i64 a1_1], .agg #[.int .i64 t308, .int .i64 t309]] ?_; (with_reducible refine (spec_Meets.calls a1_0 a1_1 t308 t309 true _ A28.out).mono ?_); rintro e w42 ⟨rfl, hb⟩; refine ⟨_, rfl, ?_⟩; have n0_ := Aside0.mk (blk_below (g := gb303) (o := .cells #[.int .i64 a0_0, .int .i64 a0_1, .int .i64 a0_2, .int .i64 a0_3, .int .i64 a0_4] 24 (0, 0)) (by (with_reducible repeat (first | refine blk_drewN ?_ _ | refine blk_drew ?_ | refine blk_alloc ?_ _)); refine blk_far ?_ NB303_310.out _; (with_reducible repeat (first | refine blk_drewN ?_ _ | refine blk_drew ?_ | refine blk_alloc ?_ _)); refine blk_far ?_ NB303_310.out _; (with_reducible repeat (first | refine blk_drewN ?_ _ | refine blk_drew ?_ | refine blk_alloc ?_ _)); exact BK303.out) hb); have n1_ := Aside0.mk (blk_below (g := gb304) (o := .cells #[.int .i64 a1_0, .int .i64 a1_1] 27 (0, 0)) (by (with_reducible repeat (first | refine blk_drewN ?_ _ | refine blk_drew ?_ | refine blk_alloc ?_ _)); refine blk_far ?_ NB304_310.out _; (with_reducible repeat (first | refine blk_drewN ?_ _ | refine blk_drew ?_ | refine blk_alloc ?_ _)); refine blk_far ?_ NB304_310.out _; (with_reducible repeat (first | refine blk_drewN ?_ _ | refine blk_drew ?_ | refine blk_alloc ?_ _)); exact BK304.out) hb); have n2_ := Aside0.mk (blk_below (g := gb305) (o := .cells #[.int .i64 0, .int .i64 0] 27 (0, 0)) (by (with_reducible repeat (first | refine blk_drewN ?_ _ | refine blk_drew ?_ | refine blk_alloc ?_ _)); refine blk_far ?_ NB305_310.out _; (with_reducible repeat (first | refine blk_drewN ?_ _ | refine blk_drew ?_ | refine blk_alloc ?_ _)); refine blk_far ?_ NB305_310.out _; (with_reducible repeat (first | refine blk_drewN ?_ _ | refine blk_drew ?_ | refine blk_alloc ?_ _)); exact BK305.out) hb); have n3_ := Aside0.mk (blk_below (g := gb310) (o := .cells #[.int .i64 t308, .int .i64 t309] 27 (0, 0)) (by (with_reducible repeat (first | refine blk_drewN ?_ _ | refine blk_drew ?_ | refine blk_alloc ?_ _)); refine blk_put (cs := #[.int .i64 t308, .int .i64 0]) ?_ 1 _ rfl; (with_reducible repeat (first | refine blk_drewN ?_ _ | refine blk_drew ?_ | refine blk_alloc ?_ _)); refine blk_put (cs := #[.int .i64 0, .int .i64 0]) ?_ 0 _ rfl; (with_reducible repeat (first | refine blk_drewN ?_ _ | refine blk_drew ?_ | refine blk_alloc ?_ _)); exact BK310.out) hb); have n4_ := Aside0.mk (below_step (by repeat (first | (with_reducible first | exact HB.out | apply below_alloc | apply pw_below_drewN | apply below_drew1 | refine below_set ?_ GE303.out | refine below_set ?_ GE304.out | refine below_set ?_ GE305.out | refine below_set ?_ GE310.out) | exact HB.out)) hb); clear BK303 BK304 BK305 BK310 HB; have BK303 := n0_; have BK304 := n1_; have BK305 := n2_; have BK310 := n3_; have HB := n4_; clear n0_ n1_ n2_ n3_ n4_; (try clear hb); obtain ⟨hcz43_0, hcz43_1, hfz43_0, hfz43_1⟩ := zs2 BK304; obtain ⟨hcz44_0, hcz44_1, hfz44_0, hfz44_1⟩ := zs2 BK310) | ((with_reducible refine gate_callee (f := 98) rfl ?_); refine zL (some 33) Try.func98 #[.agg #[.int .i64 a1_0, .int .i64 a1_1], .agg #[.int .i64 t308, .int .i64 t309]] ?_; (with_reducible refine (spec_Both.calls a1_0 a1_1 t308 t309 t312 t313 _ A30.out).mono ?_); rintro e w45 ⟨rfl, hb⟩; refine ⟨_, rfl, ?_⟩; replace BK303 := zb BK303 hb; replace BK304 := zb BK304 hb; replace BK305 := zb BK305 hb; replace BK310 := zb BK310 hb; replace HB := zB HB hb; (try clear hb); obtain ⟨hcz46_0, hcz46_1, hfz46_0, hfz46_1⟩ := zs2 BK305))
     refine bodyPost_ret (results_cell_row rfl _ _ gb305 27 #[.int .i64 t312, .int .i64 t313] (0, 0) _ rfl (by (with_reducible repeat (first | refine blk_drewN ?_ _ | refine blk_drew ?_ | refine blk_alloc ?_ _)); refine blk_put (cs := #[.int .i64 t312, .int .i64 0]) ?_ 1 _ rfl; (with_reducible repeat (first | refine blk_drewN ?_ _ | refine blk_drew ?_ | refine blk_alloc ?_ _)); refine blk_put (cs := #[.int .i64 0, .int .i64 0]) ?_ 0 _ rfl; (with_reducible repeat (first | refine blk_drewN ?_ _ | refine blk_drew ?_ | refine blk_alloc ?_ _)); exact BK305.out) Try.underlying27 rfl (by kernel_rfl)) rfl ?_
     exact ⟨by first | rfl | (simp [errW_none, errW_some] <;> rfl) | (simp [*, errW_none, errW_some] <;> rfl), by repeat (first | (with_reducible first | exact HB.out | apply below_alloc | apply pw_below_drewN | apply below_drew1 | refine below_set ?_ GE303.out | refine below_set ?_ GE304.out | refine below_set ?_ GE305.out | refine below_set ?_ GE310.out) | exact HB.out)⟩
    ·replace c29 := Bool.eq_false_iff.mpr c29
     subst c29
     have H1 : (if t308 < a1_0 then (if t309 > a1_1 then (some (t308, t309)) else (some (t308, a1_1))) else (if t309 > a1_1 then (some (a1_0, t309)) else (some (a1_0, a1_1)))) = some (r1, r2) := by rw [if_neg (show ¬ (false = true) by decide)] at H; exact H
     clear H
     have H := H1
     clear H1
     by_cases c47 : t308 < a1_0
     ·rw [if_pos c47] at H
      have c47b0 : decide (t308 < a1_0) = true := decide_eq_true c47
      clear c47
      by_cases c48 : t309 > a1_1
      ·rw [if_pos c48] at H
       have c48b0 : decide (a1_1 < t309) = true := decide_eq_true c48
       clear c48
       simp only [Option.some.injEq, Prod.mk.injEq] at H
       obtain ⟨rfl, rfl⟩ := H
       have hnb49 := NB303_304.out
       have hnc49 := NB304_303.out
       have hnb50 := NB303_305.out
       have hnc50 := NB305_303.out
       obtain ⟨hcz51_0, hcz51_1, hcz51_2, hcz51_3, hcz51_4, hfz51_0, hfz51_1, hfz51_2, hfz51_3, hfz51_4⟩ := zs5 BK303
       go_wp2_with (first | ((with_reducible refine gate_callee (f := 71) rfl ?_); refine zL (some 27) Try.func71 #[.agg #[.int .i64 (wrap64 (a2 - a0_2)), .int .i64 (wrap64 (a2 + a0_2))]] ?_; (with_reducible refine (spec_l1clip.calls kj3 (wrap64 (a2 - a0_2)) (wrap64 (a2 + a0_2)) t308 t309 _ A27.out).mono ?_); rintro e w52 ⟨rfl, hb⟩; refine ⟨_, rfl, ?_⟩; replace BK303 := zb BK303 hb; replace BK304 := zb BK304 hb; replace BK305 := zb BK305 hb; replace HB := zB HB hb; (try clear hb)) | ((with_reducible refine gate_dst (N := 7) rfl ?_); refine zx 7 #[.int .i64 0, .int .i64 0] 27 ?_; intro gb310 hg w53 hbox hb; have BK310 := Aside0.mk (hbox); have GW310 := zge HB hg; have GE310 := GW310; have NB303_310 := zl BK303 hg; have NB310_303 := zg BK303 hg; have NB304_310 := zl BK304 hg; have NB310_304 := zg BK304 hg; have NB305_310 := zl BK305 hg; have NB310_305 := zg BK305 hg; replace BK303 := zb BK303 hb; replace BK304 := zb BK304 hb; replace BK305 := zb BK305 hb; replace HB := zB HB hb; clear hb hbox hg; have hnb54 := NB310_303.out; have hnc54 := NB303_310.out; have hnb55 := NB310_304.out; have hnc55 := NB304_310.out; have hnb56 := NB310_305.out; have hnc56 := NB305_310.out; obtain ⟨hcz57_0, hcz57_1, hfz57_0, hfz57_1⟩ := zs2 BK310; have hnb58 := NB304_305.out; have hnc58 := NB305_304.out; obtain ⟨hcz59_0, hcz59_1, hfz59_0, hfz59_1⟩ := zs2 BK304) | ((with_reducible refine gate_callee (f := 72) rfl ?_); refine zL (some 30) Try.func72 #[.agg #[.int .i64 a1_0, .int .i64 a1_1], .agg #[.int .i64 t308, .int .i64 t309]] ?_; (with_reducible refine (spec_Meets.calls a1_0 a1_1 t308 t309 false _ A28.out).mono ?_); rintro e w60 ⟨rfl, hb⟩; refine ⟨_, rfl, ?_⟩; have n0_ := Aside0.mk (blk_below (g := gb303) (o := .cells #[.int .i64 a0_0, .int .i64 a0_1, .int .i64 a0_2, .int .i64 a0_3, .int .i64 a0_4] 24 (0, 0)) (by (with_reducible repeat (first | refine blk_drewN ?_ _ | refine blk_drew ?_ | refine blk_alloc ?_ _)); refine blk_far ?_ NB303_310.out _; (with_reducible repeat (first | refine blk_drewN ?_ _ | refine blk_drew ?_ | refine blk_alloc ?_ _)); refine blk_far ?_ NB303_310.out _; (with_reducible repeat (first | refine blk_drewN ?_ _ | refine blk_drew ?_ | refine blk_alloc ?_ _)); exact BK303.out) hb); have n1_ := Aside0.mk (blk_below (g := gb304) (o := .cells #[.int .i64 a1_0, .int .i64 a1_1] 27 (0, 0)) (by (with_reducible repeat (first | refine blk_drewN ?_ _ | refine blk_drew ?_ | refine blk_alloc ?_ _)); refine blk_far ?_ NB304_310.out _; (with_reducible repeat (first | refine blk_drewN ?_ _ | refine blk_drew ?_ | refine blk_alloc ?_ _)); refine blk_far ?_ NB304_310.out _; (with_reducible repeat (first | refine blk_drewN ?_ _ | refine blk_drew ?_ | refine blk_alloc ?_ _)); exact BK304.out) hb); have n2_ := Aside0.mk (blk_below (g := gb305) (o := .cells #[.int .i64 0, .int .i64 0] 27 (0, 0)) (by (with_reducible repeat (first | refine blk_drewN ?_ _ | refine blk_drew ?_ | refine blk_alloc ?_ _)); refine blk_far ?_ NB305_310.out _; (with_reducible repeat (first | refine blk_drewN ?_ _ | refine blk_drew ?_ | refine blk_alloc ?_ _)); refine blk_far ?_ NB305_310.out _; (with_reducible repeat (first | refine blk_drewN ?_ _ | refine blk_drew ?_ | refine blk_alloc ?_ _)); exact BK305.out) hb); have n3_ := Aside0.mk (blk_below (g := gb310) (o := .cells #[.int .i64 t308, .int .i64 t309] 27 (0, 0)) (by (with_reducible repeat (first | refine blk_drewN ?_ _ | refine blk_drew ?_ | refine blk_alloc ?_ _)); refine blk_put (cs := #[.int .i64 t308, .int .i64 0]) ?_ 1 _ rfl; (with_reducible repeat (first | refine blk_drewN ?_ _ | refine blk_drew ?_ | refine blk_alloc ?_ _)); refine blk_put (cs := #[.int .i64 0, .int .i64 0]) ?_ 0 _ rfl; (with_reducible repeat (first | refine blk_drewN ?_ _ | refine blk_drew ?_ | refine blk_alloc ?_ _)); exact BK310.out) hb); have n4_ := Aside0.mk (below_step (by repeat (first | (with_reducible first | exact HB.out | apply below_alloc | apply pw_below_drewN | apply below_drew1 | refine below_set ?_ GE303.out | refine below_set ?_ GE304.out | refine below_set ?_ GE305.out | refine below_set ?_ GE310.out) | exact HB.out)) hb); clear BK303 BK304 BK305 BK310 HB; have BK303 := n0_; have BK304 := n1_; have BK305 := n2_; have BK310 := n3_; have HB := n4_; clear n0_ n1_ n2_ n3_ n4_; (try clear hb); obtain ⟨hcz61_0, hcz61_1, hfz61_0, hfz61_1⟩ := zs2 BK310; obtain ⟨hcz62_0, hcz62_1, hfz62_0, hfz62_1⟩ := zs2 BK304; obtain ⟨hcz63_0, hcz63_1, hfz63_0, hfz63_1⟩ := zs2 BK305))
       refine bodyPost_ret (results_cell_row rfl _ _ gb305 27 #[.int .i64 t308, .int .i64 t309] (0, 0) _ rfl (by (with_reducible repeat (first | refine blk_drewN ?_ _ | refine blk_drew ?_ | refine blk_alloc ?_ _)); refine blk_put (cs := #[.int .i64 t308, .int .i64 0]) ?_ 1 _ rfl; (with_reducible repeat (first | refine blk_drewN ?_ _ | refine blk_drew ?_ | refine blk_alloc ?_ _)); refine blk_put (cs := #[.int .i64 0, .int .i64 0]) ?_ 0 _ rfl; (with_reducible repeat (first | refine blk_drewN ?_ _ | refine blk_drew ?_ | refine blk_alloc ?_ _)); refine blk_far ?_ NB305_304.out _; (with_reducible repeat (first | refine blk_drewN ?_ _ | refine blk_drew ?_ | refine blk_alloc ?_ _)); refine blk_far ?_ NB305_304.out _; (with_reducible repeat (first | refine blk_drewN ?_ _ | refine blk_drew ?_ | refine blk_alloc ?_ _)); exact BK305.out) Try.underlying27 rfl (by kernel_rfl)) rfl ?_
       exact ⟨by first | rfl | (simp [errW_none, errW_some] <;> rfl) | (simp [*, errW_none, errW_some] <;> rfl), by repeat (first | (with_reducible first | exact HB.out | apply below_alloc | apply pw_below_drewN | apply below_drew1 | refine below_set ?_ GE303.out | refine below_set ?_ GE304.out | refine below_set ?_ GE305.out | refine below_set ?_ GE310.out) | exact HB.out)⟩
      ·rw [if_neg c48] at H
       have c48b0 : decide (a1_1 < t309) = false := decide_eq_false c48
       clear c48
       simp only [Option.some.injEq, Prod.mk.injEq] at H
       obtain ⟨rfl, rfl⟩ := H
       have hnb64 := NB303_304.out
       have hnc64 := NB304_303.out
       have hnb65 := NB303_305.out
       have hnc65 := NB305_303.out
       obtain ⟨hcz66_0, hcz66_1, hcz66_2, hcz66_3, hcz66_4, hfz66_0, hfz66_1, hfz66_2, hfz66_3, hfz66_4⟩ := zs5 BK303
       go_wp2_with (first | ((with_reducible refine gate_callee (f := 71) rfl ?_); refine zL (some 27) Try.func71 #[.agg #[.int .i64 (wrap64 (a2 - a0_2)), .int .i64 (wrap64 (a2 + a0_2))]] ?_; (with_reducible refine (spec_l1clip.calls kj3 (wrap64 (a2 - a0_2)) (wrap64 (a2 + a0_2)) t308 t309 _ A27.out).mono ?_); rintro e w67 ⟨rfl, hb⟩; refine ⟨_, rfl, ?_⟩; replace BK303 := zb BK303 hb; replace BK304 := zb BK304 hb; replace BK305 := zb BK305 hb; replace HB := zB HB hb; (try clear hb)) | ((with_reducible refine gate_dst (N := 7) rfl ?_); refine zx 7 #[.int .i64 0, .int .i64 0] 27 ?_; intro gb310 hg w68 hbox hb; have BK310 := Aside0.mk (hbox); have GW310 := zge HB hg; have GE310 := GW310; have NB303_310 := zl BK303 hg; have NB310_303 := zg BK303 hg; have NB304_310 := zl BK304 hg; have NB310_304 := zg BK304 hg; have NB305_310 := zl BK305 hg; have NB310_305 := zg BK305 hg; replace BK303 := zb BK303 hb; replace BK304 := zb BK304 hb; replace BK305 := zb BK305 hb; replace HB := zB HB hb; clear hb hbox hg; have hnb69 := NB310_303.out; have hnc69 := NB303_310.out; have hnb70 := NB310_304.out; have hnc70 := NB304_310.out; have hnb71 := NB310_305.out; have hnc71 := NB305_310.out; obtain ⟨hcz72_0, hcz72_1, hfz72_0, hfz72_1⟩ := zs2 BK310; have hnb73 := NB304_305.out; have hnc73 := NB305_304.out; obtain ⟨hcz74_0, hcz74_1, hfz74_0, hfz74_1⟩ := zs2 BK304) | ((with_reducible refine gate_callee (f := 72) rfl ?_); refine zL (some 30) Try.func72 #[.agg #[.int .i64 a1_0, .int .i64 a1_1], .agg #[.int .i64 t308, .int .i64 t309]] ?_; (with_reducible refine (spec_Meets.calls a1_0 a1_1 t308 t309 false _ A28.out).mono ?_); rintro e w75 ⟨rfl, hb⟩; refine ⟨_, rfl, ?_⟩; have n0_ := Aside0.mk (blk_below (g := gb303) (o := .cells #[.int .i64 a0_0, .int .i64 a0_1, .int .i64 a0_2, .int .i64 a0_3, .int .i64 a0_4] 24 (0, 0)) (by (with_reducible repeat (first | refine blk_drewN ?_ _ | refine blk_drew ?_ | refine blk_alloc ?_ _)); refine blk_far ?_ NB303_310.out _; (with_reducible repeat (first | refine blk_drewN ?_ _ | refine blk_drew ?_ | refine blk_alloc ?_ _)); refine blk_far ?_ NB303_310.out _; (with_reducible repeat (first | refine blk_drewN ?_ _ | refine blk_drew ?_ | refine blk_alloc ?_ _)); exact BK303.out) hb); have n1_ := Aside0.mk (blk_below (g := gb304) (o := .cells #[.int .i64 a1_0, .int .i64 a1_1] 27 (0, 0)) (by (with_reducible repeat (first | refine blk_drewN ?_ _ | refine blk_drew ?_ | refine blk_alloc ?_ _)); refine blk_far ?_ NB304_310.out _; (with_reducible repeat (first | refine blk_drewN ?_ _ | refine blk_drew ?_ | refine blk_alloc ?_ _)); refine blk_far ?_ NB304_310.out _; (with_reducible repeat (first | refine blk_drewN ?_ _ | refine blk_drew ?_ | refine blk_alloc ?_ _)); exact BK304.out) hb); have n2_ := Aside0.mk (blk_below (g := gb305) (o := .cells #[.int .i64 0, .int .i64 0] 27 (0, 0)) (by (with_reducible repeat (first | refine blk_drewN ?_ _ | refine blk_drew ?_ | refine blk_alloc ?_ _)); refine blk_far ?_ NB305_310.out _; (with_reducible repeat (first | refine blk_drewN ?_ _ | refine blk_drew ?_ | refine blk_alloc ?_ _)); refine blk_far ?_ NB305_310.out _; (with_reducible repeat (first | refine blk_drewN ?_ _ | refine blk_drew ?_ | refine blk_alloc ?_ _)); exact BK305.out) hb); have n3_ := Aside0.mk (blk_below (g := gb310) (o := .cells #[.int .i64 t308, .int .i64 t309] 27 (0, 0)) (by (with_reducible repeat (first | refine blk_drewN ?_ _ | refine blk_drew ?_ | refine blk_alloc ?_ _)); refine blk_put (cs := #[.int .i64 t308, .int .i64 0]) ?_ 1 _ rfl; (with_reducible repeat (first | refine blk_drewN ?_ _ | refine blk_drew ?_ | refine blk_alloc ?_ _)); refine blk_put (cs := #[.int .i64 0, .int .i64 0]) ?_ 0 _ rfl; (with_reducible repeat (first | refine blk_drewN ?_ _ | refine blk_drew ?_ | refine blk_alloc ?_ _)); exact BK310.out) hb); have n4_ := Aside0.mk (below_step (by repeat (first | (with_reducible first | exact HB.out | apply below_alloc | apply pw_below_drewN | apply below_drew1 | refine below_set ?_ GE303.out | refine below_set ?_ GE304.out | refine below_set ?_ GE305.out | refine below_set ?_ GE310.out) | exact HB.out)) hb); clear BK303 BK304 BK305 BK310 HB; have BK303 := n0_; have BK304 := n1_; have BK305 := n2_; have BK310 := n3_; have HB := n4_; clear n0_ n1_ n2_ n3_ n4_; (try clear hb); obtain ⟨hcz76_0, hcz76_1, hfz76_0, hfz76_1⟩ := zs2 BK310; obtain ⟨hcz77_0, hcz77_1, hfz77_0, hfz77_1⟩ := zs2 BK304; obtain ⟨hcz78_0, hcz78_1, hfz78_0, hfz78_1⟩ := zs2 BK305))
       refine bodyPost_ret (results_cell_row rfl _ _ gb305 27 #[.int .i64 t308, .int .i64 a1_1] (0, 0) _ rfl (by (with_reducible repeat (first | refine blk_drewN ?_ _ | refine blk_drew ?_ | refine blk_alloc ?_ _)); refine blk_put (cs := #[.int .i64 t308, .int .i64 0]) ?_ 1 _ rfl; (with_reducible repeat (first | refine blk_drewN ?_ _ | refine blk_drew ?_ | refine blk_alloc ?_ _)); refine blk_put (cs := #[.int .i64 0, .int .i64 0]) ?_ 0 _ rfl; (with_reducible repeat (first | refine blk_drewN ?_ _ | refine blk_drew ?_ | refine blk_alloc ?_ _)); refine blk_far ?_ NB305_304.out _; (with_reducible repeat (first | refine blk_drewN ?_ _ | refine blk_drew ?_ | refine blk_alloc ?_ _)); exact BK305.out) Try.underlying27 rfl (by kernel_rfl)) rfl ?_
       exact ⟨by first | rfl | (simp [errW_none, errW_some] <;> rfl) | (simp [*, errW_none, errW_some] <;> rfl), by repeat (first | (with_reducible first | exact HB.out | apply below_alloc | apply pw_below_drewN | apply below_drew1 | refine below_set ?_ GE303.out | refine below_set ?_ GE304.out | refine below_set ?_ GE305.out | refine below_set ?_ GE310.out) | exact HB.out)⟩
     ·rw [if_neg c47] at H
      have c47b0 : decide (t308 < a1_0) = false := decide_eq_false c47
      clear c47
      by_cases c79 : t309 > a1_1
      ·rw [if_pos c79] at H
       have c79b0 : decide (a1_1 < t309) = true := decide_eq_true c79
       clear c79
       simp only [Option.some.injEq, Prod.mk.injEq] at H
       obtain ⟨rfl, rfl⟩ := H
       have hnb80 := NB303_304.out
       have hnc80 := NB304_303.out
       have hnb81 := NB303_305.out
       have hnc81 := NB305_303.out
       obtain ⟨hcz82_0, hcz82_1, hcz82_2, hcz82_3, hcz82_4, hfz82_0, hfz82_1, hfz82_2, hfz82_3, hfz82_4⟩ := zs5 BK303
       go_wp2_with (first | ((with_reducible refine gate_callee (f := 71) rfl ?_); refine zL (some 27) Try.func71 #[.agg #[.int .i64 (wrap64 (a2 - a0_2)), .int .i64 (wrap64 (a2 + a0_2))]] ?_; (with_reducible refine (spec_l1clip.calls kj3 (wrap64 (a2 - a0_2)) (wrap64 (a2 + a0_2)) t308 t309 _ A27.out).mono ?_); rintro e w83 ⟨rfl, hb⟩; refine ⟨_, rfl, ?_⟩; replace BK303 := zb BK303 hb; replace BK304 := zb BK304 hb; replace BK305 := zb BK305 hb; replace HB := zB HB hb; (try clear hb)) | ((with_reducible refine gate_dst (N := 7) rfl ?_); refine zx 7 #[.int .i64 0, .int .i64 0] 27 ?_; intro gb310 hg w84 hbox hb; have BK310 := Aside0.mk (hbox); have GW310 := zge HB hg; have GE310 := GW310; have NB303_310 := zl BK303 hg; have NB310_303 := zg BK303 hg; have NB304_310 := zl BK304 hg; have NB310_304 := zg BK304 hg; have NB305_310 := zl BK305 hg; have NB310_305 := zg BK305 hg; replace BK303 := zb BK303 hb; replace BK304 := zb BK304 hb; replace BK305 := zb BK305 hb; replace HB := zB HB hb; clear hb hbox hg; have hnb85 := NB310_303.out; have hnc85 := NB303_310.out; have hnb86 := NB310_304.out; have hnc86 := NB304_310.out; have hnb87 := NB310_305.out; have hnc87 := NB305_310.out; obtain ⟨hcz88_0, hcz88_1, hfz88_0, hfz88_1⟩ := zs2 BK310; have hnb89 := NB304_305.out; have hnc89 := NB305_304.out; obtain ⟨hcz90_0, hcz90_1, hfz90_0, hfz90_1⟩ := zs2 BK304) | ((with_reducible refine gate_callee (f := 72) rfl ?_); refine zL (some 30) Try.func72 #[.agg #[.int .i64 a1_0, .int .i64 a1_1], .agg #[.int .i64 t308, .int .i64 t309]] ?_; (with_reducible refine (spec_Meets.calls a1_0 a1_1 t308 t309 false _ A28.out).mono ?_); rintro e w91 ⟨rfl, hb⟩; refine ⟨_, rfl, ?_⟩; have n0_ := Aside0.mk (blk_below (g := gb303) (o := .cells #[.int .i64 a0_0, .int .i64 a0_1, .int .i64 a0_2, .int .i64 a0_3, .int .i64 a0_4] 24 (0, 0)) (by (with_reducible repeat (first | refine blk_drewN ?_ _ | refine blk_drew ?_ | refine blk_alloc ?_ _)); refine blk_far ?_ NB303_310.out _; (with_reducible repeat (first | refine blk_drewN ?_ _ | refine blk_drew ?_ | refine blk_alloc ?_ _)); refine blk_far ?_ NB303_310.out _; (with_reducible repeat (first | refine blk_drewN ?_ _ | refine blk_drew ?_ | refine blk_alloc ?_ _)); exact BK303.out) hb); have n1_ := Aside0.mk (blk_below (g := gb304) (o := .cells #[.int .i64 a1_0, .int .i64 a1_1] 27 (0, 0)) (by (with_reducible repeat (first | refine blk_drewN ?_ _ | refine blk_drew ?_ | refine blk_alloc ?_ _)); refine blk_far ?_ NB304_310.out _; (with_reducible repeat (first | refine blk_drewN ?_ _ | refine blk_drew ?_ | refine blk_alloc ?_ _)); refine blk_far ?_ NB304_310.out _; (with_reducible repeat (first | refine blk_drewN ?_ _ | refine blk_drew ?_ | refine blk_alloc ?_ _)); exact BK304.out) hb); have n2_ := Aside0.mk (blk_below (g := gb305) (o := .cells #[.int .i64 0, .int .i64 0] 27 (0, 0)) (by (with_reducible repeat (first | refine blk_drewN ?_ _ | refine blk_drew ?_ | refine blk_alloc ?_ _)); refine blk_far ?_ NB305_310.out _; (with_reducible repeat (first | refine blk_drewN ?_ _ | refine blk_drew ?_ | refine blk_alloc ?_ _)); refine blk_far ?_ NB305_310.out _; (with_reducible repeat (first | refine blk_drewN ?_ _ | refine blk_drew ?_ | refine blk_alloc ?_ _)); exact BK305.out) hb); have n3_ := Aside0.mk (blk_below (g := gb310) (o := .cells #[.int .i64 t308, .int .i64 t309] 27 (0, 0)) (by (with_reducible repeat (first | refine blk_drewN ?_ _ | refine blk_drew ?_ | refine blk_alloc ?_ _)); refine blk_put (cs := #[.int .i64 t308, .int .i64 0]) ?_ 1 _ rfl; (with_reducible repeat (first | refine blk_drewN ?_ _ | refine blk_drew ?_ | refine blk_alloc ?_ _)); refine blk_put (cs := #[.int .i64 0, .int .i64 0]) ?_ 0 _ rfl; (with_reducible repeat (first | refine blk_drewN ?_ _ | refine blk_drew ?_ | refine blk_alloc ?_ _)); exact BK310.out) hb); have n4_ := Aside0.mk (below_step (by repeat (first | (with_reducible first | exact HB.out | apply below_alloc | apply pw_below_drewN | apply below_drew1 | refine below_set ?_ GE303.out | refine below_set ?_ GE304.out | refine below_set ?_ GE305.out | refine below_set ?_ GE310.out) | exact HB.out)) hb); clear BK303 BK304 BK305 BK310 HB; have BK303 := n0_; have BK304 := n1_; have BK305 := n2_; have BK310 := n3_; have HB := n4_; clear n0_ n1_ n2_ n3_ n4_; (try clear hb); obtain ⟨hcz92_0, hcz92_1, hfz92_0, hfz92_1⟩ := zs2 BK310; obtain ⟨hcz93_0, hcz93_1, hfz93_0, hfz93_1⟩ := zs2 BK304; obtain ⟨hcz94_0, hcz94_1, hfz94_0, hfz94_1⟩ := zs2 BK305))
       refine bodyPost_ret (results_cell_row rfl _ _ gb305 27 #[.int .i64 a1_0, .int .i64 t309] (0, 0) _ rfl (by (with_reducible repeat (first | refine blk_drewN ?_ _ | refine blk_drew ?_ | refine blk_alloc ?_ _)); refine blk_put (cs := #[.int .i64 a1_0, .int .i64 0]) ?_ 1 _ rfl; (with_reducible repeat (first | refine blk_drewN ?_ _ | refine blk_drew ?_ | refine blk_alloc ?_ _)); refine blk_put (cs := #[.int .i64 0, .int .i64 0]) ?_ 0 _ rfl; (with_reducible repeat (first | refine blk_drewN ?_ _ | refine blk_drew ?_ | refine blk_alloc ?_ _)); refine blk_far ?_ NB305_304.out _; (with_reducible repeat (first | refine blk_drewN ?_ _ | refine blk_drew ?_ | refine blk_alloc ?_ _)); exact BK305.out) Try.underlying27 rfl (by kernel_rfl)) rfl ?_
       exact ⟨by first | rfl | (simp [errW_none, errW_some] <;> rfl) | (simp [*, errW_none, errW_some] <;> rfl), by repeat (first | (with_reducible first | exact HB.out | apply below_alloc | apply pw_below_drewN | apply below_drew1 | refine below_set ?_ GE303.out | refine below_set ?_ GE304.out | refine below_set ?_ GE305.out | refine below_set ?_ GE310.out) | exact HB.out)⟩
      ·rw [if_neg c79] at H
       have c79b0 : decide (a1_1 < t309) = false := decide_eq_false c79
       clear c79
       simp only [Option.some.injEq, Prod.mk.injEq] at H
       obtain ⟨rfl, rfl⟩ := H
       have hnb95 := NB303_304.out
       have hnc95 := NB304_303.out
       have hnb96 := NB303_305.out
       have hnc96 := NB305_303.out
       obtain ⟨hcz97_0, hcz97_1, hcz97_2, hcz97_3, hcz97_4, hfz97_0, hfz97_1, hfz97_2, hfz97_3, hfz97_4⟩ := zs5 BK303
       go_wp2_with (first | ((with_reducible refine gate_callee (f := 71) rfl ?_); refine zL (some 27) Try.func71 #[.agg #[.int .i64 (wrap64 (a2 - a0_2)), .int .i64 (wrap64 (a2 + a0_2))]] ?_; (with_reducible refine (spec_l1clip.calls kj3 (wrap64 (a2 - a0_2)) (wrap64 (a2 + a0_2)) t308 t309 _ A27.out).mono ?_); rintro e w98 ⟨rfl, hb⟩; refine ⟨_, rfl, ?_⟩; replace BK303 := zb BK303 hb; replace BK304 := zb BK304 hb; replace BK305 := zb BK305 hb; replace HB := zB HB hb; (try clear hb)) | ((with_reducible refine gate_dst (N := 7) rfl ?_); refine zx 7 #[.int .i64 0, .int .i64 0] 27 ?_; intro gb310 hg w99 hbox hb; have BK310 := Aside0.mk (hbox); have GW310 := zge HB hg; have GE310 := GW310; have NB303_310 := zl BK303 hg; have NB310_303 := zg BK303 hg; have NB304_310 := zl BK304 hg; have NB310_304 := zg BK304 hg; have NB305_310 := zl BK305 hg; have NB310_305 := zg BK305 hg; replace BK303 := zb BK303 hb; replace BK304 := zb BK304 hb; replace BK305 := zb BK305 hb; replace HB := zB HB hb; clear hb hbox hg; have hnb100 := NB310_303.out; have hnc100 := NB303_310.out; have hnb101 := NB310_304.out; have hnc101 := NB304_310.out; have hnb102 := NB310_305.out; have hnc102 := NB305_310.out; obtain ⟨hcz103_0, hcz103_1, hfz103_0, hfz103_1⟩ := zs2 BK310; have hnb104 := NB304_305.out; have hnc104 := NB305_304.out; obtain ⟨hcz105_0, hcz105_1, hfz105_0, hfz105_1⟩ := zs2 BK304) | ((with_reducible refine gate_callee (f := 72) rfl ?_); refine zL (some 30) Try.func72 #[.agg #[.int .i64 a1_0, .int .i64 a1_1], .agg #[.int .i64 t308, .int .i64 t309]] ?_; (with_reducible refine (spec_Meets.calls a1_0 a1_1 t308 t309 false _ A28.out).mono ?_); rintro e w106 ⟨rfl, hb⟩; refine ⟨_, rfl, ?_⟩; have n0_ := Aside0.mk (blk_below (g := gb303) (o := .cells #[.int .i64 a0_0, .int .i64 a0_1, .int .i64 a0_2, .int .i64 a0_3, .int .i64 a0_4] 24 (0, 0)) (by (with_reducible repeat (first | refine blk_drewN ?_ _ | refine blk_drew ?_ | refine blk_alloc ?_ _)); refine blk_far ?_ NB303_310.out _; (with_reducible repeat (first | refine blk_drewN ?_ _ | refine blk_drew ?_ | refine blk_alloc ?_ _)); refine blk_far ?_ NB303_310.out _; (with_reducible repeat (first | refine blk_drewN ?_ _ | refine blk_drew ?_ | refine blk_alloc ?_ _)); exact BK303.out) hb); have n1_ := Aside0.mk (blk_below (g := gb304) (o := .cells #[.int .i64 a1_0, .int .i64 a1_1] 27 (0, 0)) (by (with_reducible repeat (first | refine blk_drewN ?_ _ | refine blk_drew ?_ | refine blk_alloc ?_ _)); refine blk_far ?_ NB304_310.out _; (with_reducible repeat (first | refine blk_drewN ?_ _ | refine blk_drew ?_ | refine blk_alloc ?_ _)); refine blk_far ?_ NB304_310.out _; (with_reducible repeat (first | refine blk_drewN ?_ _ | refine blk_drew ?_ | refine blk_alloc ?_ _)); exact BK304.out) hb); have n2_ := Aside0.mk (blk_below (g := gb305) (o := .cells #[.int .i64 0, .int .i64 0] 27 (0, 0)) (by (with_reducible repeat (first | refine blk_drewN ?_ _ | refine blk_drew ?_ | refine blk_alloc ?_ _)); refine blk_far ?_ NB305_310.out _; (with_reducible repeat (first | refine blk_drewN ?_ _ | refine blk_drew ?_ | refine blk_alloc ?_ _)); refine blk_far ?_ NB305_310.out _; (with_reducible repeat (first | refine blk_drewN ?_ _ | refine blk_drew ?_ | refine blk_alloc ?_ _)); exact BK305.out) hb); have n3_ := Aside0.mk (blk_below (g := gb310) (o := .cells #[.int .i64 t308, .int .i64 t309] 27 (0, 0)) (by (with_reducible repeat (first | refine blk_drewN ?_ _ | refine blk_drew ?_ | refine blk_alloc ?_ _)); refine blk_put (cs := #[.int .i64 t308, .int .i64 0]) ?_ 1 _ rfl; (with_reducible repeat (first | refine blk_drewN ?_ _ | refine blk_drew ?_ | refine blk_alloc ?_ _)); refine blk_put (cs := #[.int .i64 0, .int .i64 0]) ?_ 0 _ rfl; (with_reducible repeat (first | refine blk_drewN ?_ _ | refine blk_drew ?_ | refine blk_alloc ?_ _)); exact BK310.out) hb); have n4_ := Aside0.mk (below_step (by repeat (first | (with_reducible first | exact HB.out | apply below_alloc | apply pw_below_drewN | apply below_drew1 | refine below_set ?_ GE303.out | refine below_set ?_ GE304.out | refine below_set ?_ GE305.out | refine below_set ?_ GE310.out) | exact HB.out)) hb); clear BK303 BK304 BK305 BK310 HB; have BK303 := n0_; have BK304 := n1_; have BK305 := n2_; have BK310 := n3_; have HB := n4_; clear n0_ n1_ n2_ n3_ n4_; (try clear hb); obtain ⟨hcz107_0, hcz107_1, hfz107_0, hfz107_1⟩ := zs2 BK310; obtain ⟨hcz108_0, hcz108_1, hfz108_0, hfz108_1⟩ := zs2 BK304; obtain ⟨hcz109_0, hcz109_1, hfz109_0, hfz109_1⟩ := zs2 BK305))
       refine bodyPost_ret (results_cell_row rfl _ _ gb305 27 #[.int .i64 a1_0, .int .i64 a1_1] (0, 0) _ rfl (by (with_reducible repeat (first | refine blk_drewN ?_ _ | refine blk_drew ?_ | refine blk_alloc ?_ _)); refine blk_put (cs := #[.int .i64 a1_0, .int .i64 0]) ?_ 1 _ rfl; (with_reducible repeat (first | refine blk_drewN ?_ _ | refine blk_drew ?_ | refine blk_alloc ?_ _)); refine blk_put (cs := #[.int .i64 0, .int .i64 0]) ?_ 0 _ rfl; (with_reducible repeat (first | refine blk_drewN ?_ _ | refine blk_drew ?_ | refine blk_alloc ?_ _)); exact BK305.out) Try.underlying27 rfl (by kernel_rfl)) rfl ?_
       exact ⟨by first | rfl | (simp [errW_none, errW_some] <;> rfl) | (simp [*, errW_none, errW_some] <;> rfl), by repeat (first | (with_reducible first | exact HB.out | apply below_alloc | apply pw_below_drewN | apply below_drew1 | refine below_set ?_ GE303.out | refine below_set ?_ GE304.out | refine below_set ?_ GE305.out | refine below_set ?_ GE310.out) | exact HB.out)⟩

end Go.Proofs.Ytommdabkkgcgbaa.QFnRead
