-- Written by a program of this session (wip/tools/turnprint.py over the kit's print), for this claim: functions as plain Lean and their contracts.
import Derived.Test.YtommdabkkgcgbaaQFnExactRunx0
import Derived.Test.YtommdabkkgcgbaaQFnExactRunx7
import Derived.Test.YtommdabkkgcgbaaQFnExactRunx10
namespace Go.Proofs.Ytommdabkkgcgbaa.QFnExactRun
open Go.RowKit Go.Proofs.YtommdabkkgcgbaaW.PrintWords Go.Proofs.YtommdabkkgcgbaaW.PrintLast Go.Proofs.YtommdabkkgcgbaaW.PrintMore
attribute [local go_sem] max2_int min2_int max_two min_two max_three min_three max_four min_four   -- for this text's walks alone
set_option linter.unusedVariables false
set_option linter.unusedSimpArgs false

/-! ### impl_Run: function 29 -/
mutual
def impl_Run.j0 : Nat → List (S37) → List (S34) → Bool → Int → Int → Int → Int → Int → Int → Int → Option ((List (S29)))
 | 0, _, _, _, _, _, _, _, _, _, _ => none
 | k + 1, x1, x3, x30, x303000, x303001, x303002, x303003, x303004, x304000, x304001 => if x30 = true then (some ([] : List (S29))) else (impl_Run.l0 k x1 ([] : List (S29)) x3 (x3.length : Int) 0 x303000 x303001 x303002 x303003 x303004 true x304000 x304001 0 (-1) 0)
def impl_Run.l0 : Nat → List (S37) → List (S29) → List (S34) → Int → Int → Int → Int → Int → Int → Int → Bool → Int → Int → Int → Int → Int → Option ((List (S29)))
 | 0, _, _, _, _, _, _, _, _, _, _, _, _, _, _, _, _ => none
 | k + 1, x1, x10, x33, x34, x35, x303000, x303001, x303002, x303003, x303004, x308000, x308001, x308002, x308003, x308004, x308005 => if x35 < x34 then (if 0 ≤ x35 then (if x35 < (x33.length : Int) then ((impl_EventOk.f ((rd_T34 x33 x35).f0) ((rd_T34 x33 x35).f1)).bind fun t310 => (if t310 = true then ((impl_do.f k x303000 x303001 x303002 x303003 x303004 x1 x308000 x308001 x308002 x308003 x308004 x308005 ((rd_T34 x33 x35).f0) ((rd_T34 x33 x35).f1)).bind fun bt311 => (if x10.length < 2932031007402 then (impl_Run.l0 k x1 (x10 ++ [(⟨bt311.1, (⟨bt311.2.1, bt311.2.2.1⟩ : S27), bt311.2.2.2.1, bt311.2.2.2.2.1, bt311.2.2.2.2.2⟩ : S29)]) x33 x34 (wrap64 (x35 + 1)) x303000 x303001 x303002 x303003 x303004 bt311.1 bt311.2.1 bt311.2.2.1 bt311.2.2.2.1 bt311.2.2.2.2.1 bt311.2.2.2.2.2) else (none))) else (some ([] : List (S29))))) else (none)) else (none)) else (some x10)
end
def impl_Run.f (k : Nat) (a0_0 : Int) (a0_1 : Int) (a0_2 : Int) (a0_3 : Int) (a0_4 : Int) (l1 : List (S37)) (a2_0 : Int) (a2_1 : Int) (l3 : List (S34)) : Option ((List (S29))) := (impl_RulesOk.f a0_0 a0_1 a0_2 a0_3 a0_4).bind fun t304 => (if t304 = true then ((impl_MarksOk.f l1).bind fun t305 => (if t305 = true then ((impl_BoundOk.f a2_0 a2_1).bind fun t306 => (if t306 = true then (impl_Run.j0 k l1 l3 (decide ((l3.length : Int) > 2000)) a0_0 a0_1 a0_2 a0_3 a0_4 a2_0 a2_1) else (impl_Run.j0 k l1 l3 true a0_0 a0_1 a0_2 a0_3 a0_4 a2_0 a2_1))) else (impl_Run.j0 k l1 l3 true a0_0 a0_1 a0_2 a0_3 a0_4 a2_0 a2_1))) else (impl_Run.j0 k l1 l3 true a0_0 a0_1 a0_2 a0_3 a0_4 a2_0 a2_1))
theorem impl_Run.mono_l : ∀ k, (∀ y0 y1 y2 y3 y4 y5 y6 y7 y8 y9, LeO (impl_Run.j0 k y0 y1 y2 y3 y4 y5 y6 y7 y8 y9) (impl_Run.j0 (k + 1) y0 y1 y2 y3 y4 y5 y6 y7 y8 y9)) ∧ (∀ y0 y1 y2 y3 y4 y5 y6 y7 y8 y9 y10 y11 y12 y13 y14 y15, LeO (impl_Run.l0 k y0 y1 y2 y3 y4 y5 y6 y7 y8 y9 y10 y11 y12 y13 y14 y15) (impl_Run.l0 (k + 1) y0 y1 y2 y3 y4 y5 y6 y7 y8 y9 y10 y11 y12 y13 y14 y15))
 | 0 => ⟨fun _ _ _ _ _ _ _ _ _ _ r h => by simp [impl_Run.j0] at h, fun _ _ _ _ _ _ _ _ _ _ _ _ _ _ _ _ r h => by simp [impl_Run.l0] at h⟩
 | k + 1 => by
  obtain ⟨ih0, ih1⟩ := impl_Run.mono_l k
  refine ⟨?_, ?_⟩
  ·intro y0 y1 y2 y3 y4 y5 y6 y7 y8 y9
   unfold impl_Run.j0
   repeat' first
   | (with_reducible exact ih0 _ _ _ _ _ _ _ _ _ _)
   | (with_reducible exact ih1 _ _ _ _ _ _ _ _ _ _ _ _ _ _ _ _)
   | (with_reducible exact impl_do.mono _ _ _ _ _ _ _ _ _ _ _ _ _ _ _)
   | (with_reducible exact LeO.refl _)
   | (with_reducible exact LeO.none _)
   | (with_reducible refine LeO.ite ?_ ?_)
   | (with_reducible refine LeO.bind ?_ (fun _ => ?_))
   | exact ih0 _ _ _ _ _ _ _ _ _ _
   | exact ih1 _ _ _ _ _ _ _ _ _ _ _ _ _ _ _ _
   | exact impl_do.mono _ _ _ _ _ _ _ _ _ _ _ _ _ _ _
   | exact LeO.none _
   | refine LeO.ite ?_ ?_
   | refine LeO.bind ?_ (fun _ => ?_)
  ·intro y0 y1 y2 y3 y4 y5 y6 y7 y8 y9 y10 y11 y12 y13 y14 y15
   unfold impl_Run.l0
   repeat' first
   | (with_reducible exact ih0 _ _ _ _ _ _ _ _ _ _)
   | (with_reducible exact ih1 _ _ _ _ _ _ _ _ _ _ _ _ _ _ _ _)
   | (with_reducible exact impl_do.mono _ _ _ _ _ _ _ _ _ _ _ _ _ _ _)
   | (with_reducible exact LeO.refl _)
   | (with_reducible exact LeO.none _)
   | (with_reducible refine LeO.ite ?_ ?_)
   | (with_reducible refine LeO.bind ?_ (fun _ => ?_))
   | exact ih0 _ _ _ _ _ _ _ _ _ _
   | exact ih1 _ _ _ _ _ _ _ _ _ _ _ _ _ _ _ _
   | exact impl_do.mono _ _ _ _ _ _ _ _ _ _ _ _ _ _ _
   | exact LeO.none _
   | refine LeO.ite ?_ ?_
   | refine LeO.bind ?_ (fun _ => ?_)
theorem impl_Run.mono : ∀ a0 a1 a2 a3 a4 a5 a6 a7 a8 k, LeO (impl_Run.f k a0 a1 a2 a3 a4 a5 a6 a7 a8) (impl_Run.f (k + 1) a0 a1 a2 a3 a4 a5 a6 a7 a8) := by
 intro a0 a1 a2 a3 a4 a5 a6 a7 a8 k
 obtain ⟨ih0, ih1⟩ := impl_Run.mono_l k
 unfold impl_Run.f
 repeat' first
   | (with_reducible exact ih0 _ _ _ _ _ _ _ _ _ _)
   | (with_reducible exact ih1 _ _ _ _ _ _ _ _ _ _ _ _ _ _ _ _)
   | (with_reducible exact impl_do.mono _ _ _ _ _ _ _ _ _ _ _ _ _ _ _)
   | (with_reducible exact LeO.refl _)
   | (with_reducible exact LeO.none _)
   | (with_reducible refine LeO.ite ?_ ?_)
   | (with_reducible refine LeO.bind ?_ (fun _ => ?_))
   | exact ih0 _ _ _ _ _ _ _ _ _ _
   | exact ih1 _ _ _ _ _ _ _ _ _ _ _ _ _ _ _ _
   | exact impl_do.mono _ _ _ _ _ _ _ _ _ _ _ _ _ _ _
   | exact LeO.none _
   | refine LeO.ite ?_ ?_
   | refine LeO.bind ?_ (fun _ => ?_)
set_option maxHeartbeats 8000000 in
set_option maxRecDepth 100000 in
theorem impl_Run.calls (k : Nat) (a0_0 : Int) (a0_1 : Int) (a0_2 : Int) (a0_3 : Int) (a0_4 : Int) (A1 : Option Addr) (c1 : Nat) (l1 : List (S37)) (a2_0 : Int) (a2_1 : Int) (A3 : Option Addr) (c3 : Nat) (l3 : List (S34)) (r : List (S29)) (w : World) (hr1 : Kd.C k37 w A1 l1.length l1) (hc1 : l1.length ≤ c1) (hr3 : Kd.C k34 w A3 l3.length l3) (hc3 : l3.length ≤ c3) (h : impl_Run.f k a0_0 a0_1 a0_2 a0_3 a0_4 l1 a2_0 a2_1 l3 = some r) :
  Calls Try.prog 29 #[.agg #[.int .i64 a0_0, .int .i64 a0_1, .int .i64 a0_2, .int .i64 a0_3, .int .i64 a0_4], .slice A1 l1.length c1, .agg #[.int .i64 a2_0, .int .i64 a2_1], .slice A3 l3.length c3] w fun e w' => ∃ v0_ : Value, e = .returned (v0_) ∧ Kd.R k29 29 w' w.heap.size (fun _ => True) v0_ r ∧ Below w.heap.size w w' := by
 have hu24 := Try.underlying24
 have hu27 := Try.underlying27
 have hu29 := Try.underlying29
 have hu34 := Try.underlying34
 have HR1 := Aside0.mk hr1
 have HC1 := Aside0.mk hc1
 clear hr1 hc1
 have HR3 := Aside0.mk hr3
 have HC3 := Aside0.mk hc3
 clear hr3 hc3
 have HB := Aside0.mk (Below.refl w.heap.size w)
 have H : ((impl_RulesOk.f a0_0 a0_1 a0_2 a0_3 a0_4).bind fun t304 => (if t304 = true then ((impl_MarksOk.f l1).bind fun t305 => (if t305 = true then ((impl_BoundOk.f a2_0 a2_1).bind fun t306 => (if t306 = true then (impl_Run.j0 k l1 l3 (decide ((l3.length : Int) > 2000)) a0_0 a0_1 a0_2 a0_3 a0_4 a2_0 a2_1) else (impl_Run.j0 k l1 l3 true a0_0 a0_1 a0_2 a0_3 a0_4 a2_0 a2_1))) else (impl_Run.j0 k l1 l3 true a0_0 a0_1 a0_2 a0_3 a0_4 a2_0 a2_1))) else (impl_Run.j0 k l1 l3 true a0_0 a0_1 a0_2 a0_3 a0_4 a2_0 a2_1))) = some r := h
 clear h
 have HC5 := Aside0.mk H
 clear H
 go_enter Try.func29, Try.ntmps29
 go_upto_region 1 with (first | ((with_reducible refine gate_dst (N := 4) rfl ?_); (try (refine gate_guard (by rfl) ?_; dsimp only)); refine zx 4 #[.int .i64 a0_0, .int .i64 a0_1, .int .i64 a0_2, .int .i64 a0_3, .int .i64 a0_4] 24 ?_; intro gb302 hg w6 hbox hb; have BK302 := Aside0.mk (hbox); have GW302 := zge HB hg; have GE302 := GW302; replace HB := zB HB hb; clear hb hbox hg) | ((with_reducible refine gate_dst (N := 6) rfl ?_); (try (refine gate_guard (by rfl) ?_; dsimp only)); refine zx 6 #[.int .i64 a2_0, .int .i64 a2_1] 27 ?_; intro gb303 hg w7 hbox hb; have BK303 := Aside0.mk (hbox); have GW303 := zge HB hg; have GE303 := GW303; have NB302_303 := zl BK302 hg; have NB303_302 := zg BK302 hg; replace BK302 := zb BK302 hb; replace HB := zB HB hb; clear hb hbox hg))
 (try simp only [Act.put, List.setIfInBounds_toArray, List.set_cons_zero, List.set_cons_succ])
 go_cut [30] (fun v30 wc => ∃ (kq : Nat) (x30_4 : Bool), v30 = .bool x30_4 ∧ Aside0 (impl_Run.j0 kq l1 l3 x30_4 a0_0 a0_1 a0_2 a0_3 a0_4 a2_0 a2_1 = some r) ∧ Aside0 (kq ≤ k) ∧ Aside0 (wc.heap[gb302]? = some (.cells #[.int .i64 a0_0, .int .i64 a0_1, .int .i64 a0_2, .int .i64 a0_3, .int .i64 a0_4] 24 (0, 0))) ∧ Aside0 (wc.heap[gb303]? = some (.cells #[.int .i64 a2_0, .int .i64 a2_1] 27 (0, 0))) ∧ Aside0 (Below w.heap.size w wc))
 case first =>
  have H := HC5.out
  clear HC5
  replace H := Option.bind_eq_some_iff.mp H
  obtain ⟨t304, A80, H⟩ := H
  replace H : (if t304 = true then ((impl_MarksOk.f l1).bind fun t305 => (if t305 = true then ((impl_BoundOk.f a2_0 a2_1).bind fun t306 => (if t306 = true then (impl_Run.j0 k l1 l3 (decide ((l3.length : Int) > 2000)) a0_0 a0_1 a0_2 a0_3 a0_4 a2_0 a2_1) else (impl_Run.j0 k l1 l3 true a0_0 a0_1 a0_2 a0_3 a0_4 a2_0 a2_1))) else (impl_Run.j0 k l1 l3 true a0_0 a0_1 a0_2 a0_3 a0_4 a2_0 a2_1))) else (impl_Run.j0 k l1 l3 true a0_0 a0_1 a0_2 a0_3 a0_4 a2_0 a2_1)) = some r := H
  have A8 := Aside0.mk A80
  clear A80
  by_cases c9 : t304 = true
  ·subst c9
   have H1 : ((impl_MarksOk.f l1).bind fun t305 => (if t305 = true then ((impl_BoundOk.f a2_0 a2_1).bind fun t306 => (if t306 = true then (impl_Run.j0 k l1 l3 (decide ((l3.length : Int) > 2000)) a0_0 a0_1 a0_2 a0_3 a0_4 a2_0 a2_1) else (impl_Run.j0 k l1 l3 true a0_0 a0_1 a0_2 a0_3 a0_4 a2_0 a2_1))) else (impl_Run.j0 k l1 l3 true a0_0 a0_1 a0_2 a0_3 a0_4 a2_0 a2_1))) = some r := by rw [if_pos rfl] at H; exact H
   clear H
   have H := H1
   clear H1
   replace H := Option.bind_eq_some_iff.mp H
   obtain ⟨t305, A100, H⟩ := H
   replace H : (if t305 = true then ((impl_BoundOk.f a2_0 a2_1).bind fun t306 => (if t306 = true then (impl_Run.j0 k l1 l3 (decide ((l3.length : Int) > 2000)) a0_0 a0_1 a0_2 a0_3 a0_4 a2_0 a2_1) else (impl_Run.j0 k l1 l3 true a0_0 a0_1 a0_2 a0_3 a0_4 a2_0 a2_1))) else (impl_Run.j0 k l1 l3 true a0_0 a0_1 a0_2 a0_3 a0_4 a2_0 a2_1)) = some r := H
   have A10 := Aside0.mk A100
   clear A100
   by_cases c11 : t305 = true
   ·subst c11
    have H1 : ((impl_BoundOk.f a2_0 a2_1).bind fun t306 => (if t306 = true then (impl_Run.j0 k l1 l3 (decide ((l3.length : Int) > 2000)) a0_0 a0_1 a0_2 a0_3 a0_4 a2_0 a2_1) else (impl_Run.j0 k l1 l3 true a0_0 a0_1 a0_2 a0_3 a0_4 a2_0 a2_1))) = some r := by rw [if_pos rfl] at H; exact H
    clear H
    have H := H1
    clear H1
    replace H := Option.bind_eq_some_iff.mp H
    obtain ⟨t306, A120, H⟩ := H
    replace H : (if t306 = true then (impl_Run.j0 k l1 l3 (decide ((l3.length : Int) > 2000)) a0_0 a0_1 a0_2 a0_3 a0_4 a2_0 a2_1) else (impl_Run.j0 k l1 l3 true a0_0 a0_1 a0_2 a0_3 a0_4 a2_0 a2_1)) = some r := H
    have A12 := Aside0.mk A120
    clear A120
    by_cases c13 : t306 = true
    ·subst c13
     have H1 : (impl_Run.j0 k l1 l3 (decide ((l3.length : Int) > 2000)) a0_0 a0_1 a0_2 a0_3 a0_4 a2_0 a2_1) = some r := by rw [if_pos rfl] at H; exact H
     clear H
     have H := H1
     clear H1
     have H' := Aside0.mk H
     clear H
     have hnb14 := NB302_303.out
     have hnc14 := NB303_302.out
     obtain ⟨hcz15_0, hcz15_1, hcz15_2, hcz15_3, hcz15_4, hfz15_0, hfz15_1, hfz15_2, hfz15_3, hfz15_4⟩ := zs5 BK302
     go_wp2_with (first | ((with_reducible refine gate_callee (f := 64) rfl ?_); refine zL (some 14) Try.func64 #[.agg #[.int .i64 a0_0, .int .i64 a0_1, .int .i64 a0_2, .int .i64 a0_3, .int .i64 a0_4]] ?_; (with_reducible refine (impl_RulesOk.calls a0_0 a0_1 a0_2 a0_3 a0_4 true _ A8.out).mono ?_); rintro e w16 ⟨rfl, hb⟩; refine ⟨_, rfl, ?_⟩; replace BK302 := zb BK302 hb; replace BK303 := zb BK303 hb; replace HB := zB HB hb; (try clear hb)) | (go_at_call 37; (with_reducible refine (impl_MarksOk.calls _ _ l1 true _ ?side1 ?side2 A10.out).mono ?_); (case side1 => repeat (first | exact (Kd.C_below HR1.out HB.out) | (with_reducible refine Kd.C_alloc ?_ _) | (with_reducible refine Kd.C_drewN ?_ _) | (with_reducible refine Kd.C_drew ?_))); (case side2 => exact HC1.out); rintro e w17 ⟨rfl, hb⟩; replace BK302 := zb BK302 hb; replace BK303 := zb BK303 hb; replace HB := zB HB hb; (try clear hb); obtain ⟨hcz18_0, hcz18_1, hfz18_0, hfz18_1⟩ := zs2 BK303) | (go_at_call 78; (with_reducible refine (impl_BoundOk.calls a2_0 a2_1 true _ A12.out).mono ?_); rintro e w19 ⟨rfl, hb⟩; replace BK302 := zb BK302 hb; replace BK303 := zb BK303 hb; replace HB := zB HB hb; (try clear hb)))
     go_meet
     case rel => exact ⟨_, (decide ((l3.length : Int) > 2000)), ze, H', ⟨by first | omega | exact Nat.le_refl _⟩, ⟨zy BK302⟩, ⟨zy BK303⟩, ⟨by repeat (first | (with_reducible first | exact HB.out | apply below_alloc | apply pw_below_drewN | apply below_drew1 | refine below_set ?_ GE302.out | refine below_set ?_ GE303.out) | exact HB.out)⟩⟩
    ·replace c13 := Bool.eq_false_iff.mpr c13
     subst c13
     have H1 : (impl_Run.j0 k l1 l3 true a0_0 a0_1 a0_2 a0_3 a0_4 a2_0 a2_1) = some r := by rw [if_neg (show ¬ (false = true) by decide)] at H; exact H
     clear H
     have H := H1
     clear H1
     have H' := Aside0.mk H
     clear H
     have hnb20 := NB302_303.out
     have hnc20 := NB303_302.out
     obtain ⟨hcz21_0, hcz21_1, hcz21_2, hcz21_3, hcz21_4, hfz21_0, hfz21_1, hfz21_2, hfz21_3, hfz21_4⟩ := zs5 BK302
     go_wp2_with (first | ((with_reducible refine gate_callee (f := 64) rfl ?_); refine zL (some 14) Try.func64 #[.agg #[.int .i64 a0_0, .int .i64 a0_1, .int .i64 a0_2, .int .i64 a0_3, .int .i64 a0_4]] ?_; (with_reducible refine (impl_RulesOk.calls a0_0 a0_1 a0_2 a0_3 a0_4 true _ A8.out).mono ?_); rintro e w22 ⟨rfl, hb⟩; refine ⟨_, rfl, ?_⟩; replace BK302 := zb BK302 hb; replace BK303 := zb BK303 hb; replace HB := zB HB hb; (try clear hb)) | (go_at_call 37; (with_reducible refine (impl_MarksOk.calls _ _ l1 true _ ?side1 ?side2 A10.out).mono ?_); (case side1 => repeat (first | exact (Kd.C_below HR1.out HB.out) | (with_reducible refine Kd.C_alloc ?_ _) | (with_reducible refine Kd.C_drewN ?_ _) | (with_reducible refine Kd.C_drew ?_))); (case side2 => exact HC1.out); rintro e w23 ⟨rfl, hb⟩; replace BK302 := zb BK302 hb; replace BK303 := zb BK303 hb; replace HB := zB HB hb; (try clear hb); obtain ⟨hcz24_0, hcz24_1, hfz24_0, hfz24_1⟩ := zs2 BK303) | (go_at_call 78; (with_reducible refine (impl_BoundOk.calls a2_0 a2_1 false _ A12.out).mono ?_); rintro e w25 ⟨rfl, hb⟩; replace BK302 := zb BK302 hb; replace BK303 := zb BK303 hb; replace HB := zB HB hb; (try clear hb)))
     go_meet
     case rel => exact ⟨_, (true), ze, H', ⟨by first | omega | exact Nat.le_refl _⟩, ⟨zy BK302⟩, ⟨zy BK303⟩, ⟨by repeat (first | (with_reducible first | exact HB.out | apply below_alloc | apply pw_below_drewN | apply below_drew1 | refine below_set ?_ GE302.out | refine below_set ?_ GE303.out) | exact HB.out)⟩⟩
   ·replace c11 := Bool.eq_false_iff.mpr c11
    subst c11
    have H1 : (impl_Run.j0 k l1 l3 true a0_0 a0_1 a0_2 a0_3 a0_4 a2_0 a2_1) = some r := by rw [if_neg (show ¬ (false = true) by decide)] at H; exact H
    clear H
    have H := H1
    clear H1
    have H' := Aside0.mk H
    clear H
    have hnb26 := NB302_303.out
    have hnc26 := NB303_302.out
    obtain ⟨hcz27_0, hcz27_1, hcz27_2, hcz27_3, hcz27_4, hfz27_0, hfz27_1, hfz27_2, hfz27_3, hfz27_4⟩ := zs5 BK302
    go_wp2_with (first | ((with_reducible refine gate_callee (f := 64) rfl ?_); refine zL (some 14) Try.func64 #[.agg #[.int .i64 a0_0, .int .i64 a0_1, .int .i64 a0_2, .int .i64 a0_3, .int .i64 a0_4]] ?_; (with_reducible refine (impl_RulesOk.calls a0_0 a0_1 a0_2 a0_3 a0_4 true _ A8.out).mono ?_); rintro e w28 ⟨rfl, hb⟩; refine ⟨_, rfl, ?_⟩; replace BK302 := zb BK302 hb; replace BK303 := zb BK303 hb; replace HB := zB HB hb; (try clear hb)) | (go_at_call 37; (with_reducible refine (impl_MarksOk.calls _ _ l1 false _ ?side1 ?side2 A10.out).mono ?_); (case side1 => repeat (first | exact (Kd.C_below HR1.out HB.out) | (with_reducible refine Kd.C_alloc ?_ _) | (with_reducible refine Kd.C_drewN ?_ _) | (with_reducible refine Kd.C_drew ?_))); (case side2 => exact HC1.out); rintro e w29 ⟨rfl, hb⟩; replace BK302 := zb BK302 hb; replace BK303 := zb BK303 hb; replace HB := zB HB hb; (try clear hb)))
    go_meet
    case rel => exact ⟨_, (true), ze, H', ⟨by first | omega | exact Nat.le_refl _⟩, ⟨zy BK302⟩, ⟨zy BK303⟩, ⟨by repeat (first | (with_reducible first | exact HB.out | apply below_alloc | apply pw_below_drewN | apply below_drew1 | refine below_set ?_ GE302.out | refine below_set ?_ GE303.out) | exact HB.out)⟩⟩
  ·replace c9 := Bool.eq_false_iff.mpr c9
   subst c9
   have H1 : (impl_Run.j0 k l1 l3 true a0_0 a0_1 a0_2 a0_3 a0_4 a2_0 a2_1) = some r := by rw [if_neg (show ¬ (false = true) by decide)] at H; exact H
   clear H
   have H := H1
   clear H1
   have H' := Aside0.mk H
   clear H
   have hnb30 := NB302_303.out
   have hnc30 := NB303_302.out
   obtain ⟨hcz31_0, hcz31_1, hcz31_2, hcz31_3, hcz31_4, hfz31_0, hfz31_1, hfz31_2, hfz31_3, hfz31_4⟩ := zs5 BK302
   go_wp2_with (first | ((with_reducible refine gate_callee (f := 64) rfl ?_); refine zL (some 14) Try.func64 #[.agg #[.int .i64 a0_0, .int .i64 a0_1, .int .i64 a0_2, .int .i64 a0_3, .int .i64 a0_4]] ?_; (with_reducible refine (impl_RulesOk.calls a0_0 a0_1 a0_2 a0_3 a0_4 false _ A8.out).mono ?_); rintro e w32 ⟨rfl, hb⟩; refine ⟨_, rfl, ?_⟩; replace BK302 := zb BK302 hb; replace BK303 := zb BK303 hb; replace HB := zB HB hb; (try clear hb)))
   go_meet
   case rel => exact ⟨_, (true), ze, H', ⟨by first | omega | exact Nat.le_refl _⟩, ⟨zy BK302⟩, ⟨zy BK303⟩, ⟨by repeat (first | (with_reducible first | exact HB.out | apply below_alloc | apply pw_below_drewN | apply below_drew1 | refine below_set ?_ GE302.out | refine below_set ?_ GE303.out) | exact HB.out)⟩⟩
 case rest =>
  clear HC5
  (try clear c1); (try clear c2); (try clear p2); (try clear c3); (try clear c6); (try clear c9); (try clear c11); (try clear c13); (try clear c14); (try clear c20); (try clear c26); (try clear c29); (try clear c30); (try clear hcz15_0); (try clear hcz15_1); (try clear hcz15_2); (try clear hcz15_3); (try clear hcz15_4); (try clear hcz18_0); (try clear hcz18_1); (try clear hcz21_0); (try clear hcz21_1); (try clear hcz21_2); (try clear hcz21_3); (try clear hcz21_4); (try clear hcz24_0); (try clear hcz24_1); (try clear hcz27_0); (try clear hcz27_1); (try clear hcz27_2); (try clear hcz27_3); (try clear hcz27_4); (try clear hcz31_0); (try clear hcz31_1); (try clear hcz31_2); (try clear hcz31_3); (try clear hcz31_4); (try clear hfz15_0); (try clear hfz15_1); (try clear hfz15_2); (try clear hfz15_3); (try clear hfz15_4); (try clear hfz18_0); (try clear hfz18_1); (try clear hfz21_0); (try clear hfz21_1); (try clear hfz21_2); (try clear hfz21_3); (try clear hfz21_4); (try clear hfz24_0); (try clear hfz24_1); (try clear hfz27_0); (try clear hfz27_1); (try clear hfz27_2); (try clear hfz27_3); (try clear hfz27_4); (try clear hfz31_0); (try clear hfz31_1); (try clear hfz31_2); (try clear hfz31_3); (try clear hfz31_4)
  obtain ⟨kq, x30_4, rfl, HA, HJ4, BK302, BK303, HB⟩ := hcut
  cases kq with
  | zero => exact absurd HA.out (by simp [impl_Run.j0])
  | succ kj4 =>
   have H := HA.out
   clear HA
   simp only [impl_Run.j0] at H
   by_cases c33 : x30_4 = true
   ·subst c33
    have H1 : (some ([] : List (S29))) = some r := by rw [if_pos rfl] at H; exact H
    clear H
    have H := H1
    clear H1
    obtain rfl := Option.some.inj H
    go_wp2
    go_ret
    exact ⟨_, by first | rfl | (simp [errW_none, errW_some] <;> rfl) | (simp [*, errW_none, errW_some] <;> rfl), by first | exact Kd.R_nil _ _ _ _ _ | exact Kd.N_nil _ _ _ _ _ | exact Kd.V_nil _ _ _ _ _ | exact Kd.Q_nil _ _ _ _ _ | exact Kd.S_nil _ _ _ _ _, by repeat (first | (with_reducible first | exact HB.out | apply below_alloc | apply pw_below_drewN | apply below_drew1 | refine below_set ?_ GE302.out | refine below_set ?_ GE303.out) | exact HB.out)⟩
   ·replace c33 := Bool.eq_false_iff.mpr c33
    subst c33
    have H1 : (impl_Run.l0 kj4 l1 ([] : List (S29)) l3 (l3.length : Int) 0 a0_0 a0_1 a0_2 a0_3 a0_4 true a2_0 a2_1 0 (-1) 0) = some r := by rw [if_neg (show ¬ (false = true) by decide)] at H; exact H
    clear H
    have H := H1
    clear H1
    have H' := Aside0.mk H
    clear H
    have hnb34 := NB303_302.out
    have hnc34 := NB302_303.out
    obtain ⟨hcz35_0, hcz35_1, hfz35_0, hfz35_1⟩ := zs2 BK303
    go_wp2_with (first | ((with_reducible refine gate_dst (N := 9) rfl ?_); (try (refine gate_guard (by rfl) ?_; dsimp only)); refine zx 9 #[.bool false, .int .i64 0, .int .i64 0, .int .i64 0, .int .i64 0, .int .i64 0] 29 ?_; intro gb307 hg w36 hbox hb; have BK307 := Aside0.mk (hbox); have GW307 := zge HB hg; have GE307 := GW307; have NB302_307 := zl BK302 hg; have NB307_302 := zg BK302 hg; have NB303_307 := zl BK303 hg; have NB307_303 := zg BK303 hg; replace BK302 := zb BK302 hb; replace BK303 := zb BK303 hb; replace HB := zB HB hb; clear hb hbox hg; have hnb37 := NB307_302.out; have hnc37 := NB302_307.out; have hnb38 := NB307_303.out; have hnc38 := NB303_307.out; obtain ⟨hcz39_0, hcz39_1, hcz39_2, hcz39_3, hcz39_4, hcz39_5, hfz39_0, hfz39_1, hfz39_2, hfz39_3, hfz39_4, hfz39_5⟩ := zs6 BK307))
    go_loopg [10, 35] kj4 (fun kq v10 v35 w' => ∃ (x10_2 : List (S29)) (x35_2 : Int) (x308000_2 : Bool) (x308001_2 : Int) (x308002_2 : Int) (x308003_2 : Int) (x308004_2 : Int) (x308005_2 : Int), v35 = .int .i64 x35_2 ∧ Aside0 (impl_Run.l0 kq l1 x10_2 l3 (l3.length : Int) x35_2 a0_0 a0_1 a0_2 a0_3 a0_4 x308000_2 x308001_2 x308002_2 x308003_2 x308004_2 x308005_2 = some r) ∧ Aside0 (kq ≤ kj4) ∧ Aside0 (Kd.R k29 29 w' w.heap.size (fun k_ => k_ ≠ gb307) v10 x10_2) ∧ Aside0 (w'.heap[gb302]? = some (.cells #[.int .i64 a0_0, .int .i64 a0_1, .int .i64 a0_2, .int .i64 a0_3, .int .i64 a0_4] 24 (0, 0))) ∧ Aside0 (w'.heap[gb303]? = some (.cells #[.int .i64 a2_0, .int .i64 a2_1] 27 (0, 0))) ∧ Aside0 (w'.heap[gb307]? = some (.cells #[.bool x308000_2, .int .i64 x308001_2, .int .i64 x308002_2, .int .i64 x308003_2, .int .i64 x308004_2, .int .i64 x308005_2] 29 (0, 0))) ∧ Aside0 (Below w.heap.size w w'))
    case atStart => exact ⟨(([] : List (S29))), (0), (true), (a2_0), (a2_1), (0), ((-1)), (0), ze, H', ⟨Nat.le_refl _⟩, ⟨by first | exact Kd.R_nil _ _ _ _ _ | exact Kd.N_nil _ _ _ _ _ | exact Kd.V_nil _ _ _ _ _ | exact Kd.Q_nil _ _ _ _ _ | exact Kd.S_nil _ _ _ _ _⟩, ⟨by (with_reducible repeat (first | refine blk_drewN ?_ _ | refine blk_drew ?_ | refine blk_alloc ?_ _)); refine blk_far ?_ NB302_307.out _; (with_reducible repeat (first | refine blk_drewN ?_ _ | refine blk_drew ?_ | refine blk_alloc ?_ _)); refine blk_far ?_ NB302_307.out _; (with_reducible repeat (first | refine blk_drewN ?_ _ | refine blk_drew ?_ | refine blk_alloc ?_ _)); refine blk_far ?_ NB302_307.out _; (with_reducible repeat (first | refine blk_drewN ?_ _ | refine blk_drew ?_ | refine blk_alloc ?_ _)); refine blk_far ?_ NB302_307.out _; (with_reducible repeat (first | refine blk_drewN ?_ _ | refine blk_drew ?_ | refine blk_alloc ?_ _)); refine blk_far ?_ NB302_307.out _; (with_reducible repeat (first | refine blk_drewN ?_ _ | refine blk_drew ?_ | refine blk_alloc ?_ _)); refine blk_far ?_ NB302_307.out _; (with_reducible repeat (first | refine blk_drewN ?_ _ | refine blk_drew ?_ | refine blk_alloc ?_ _)); exact BK302.out⟩, ⟨by (with_reducible repeat (first | refine blk_drewN ?_ _ | refine blk_drew ?_ | refine blk_alloc ?_ _)); refine blk_far ?_ NB303_307.out _; (with_reducible repeat (first | refine blk_drewN ?_ _ | refine blk_drew ?_ | refine blk_alloc ?_ _)); refine blk_far ?_ NB303_307.out _; (with_reducible repeat (first | refine blk_drewN ?_ _ | refine blk_drew ?_ | refine blk_alloc ?_ _)); refine blk_far ?_ NB303_307.out _; (with_reducible repeat (first | refine blk_drewN ?_ _ | refine blk_drew ?_ | refine blk_alloc ?_ _)); refine blk_far ?_ NB303_307.out _; (with_reducible repeat (first | refine blk_drewN ?_ _ | refine blk_drew ?_ | refine blk_alloc ?_ _)); refine blk_far ?_ NB303_307.out _; (with_reducible repeat (first | refine blk_drewN ?_ _ | refine blk_drew ?_ | refine blk_alloc ?_ _)); refine blk_far ?_ NB303_307.out _; (with_reducible repeat (first | refine blk_drewN ?_ _ | refine blk_drew ?_ | refine blk_alloc ?_ _)); exact BK303.out⟩, ⟨by (with_reducible repeat (first | refine blk_drewN ?_ _ | refine blk_drew ?_ | refine blk_alloc ?_ _)); refine blk_put (cs := #[.bool true, .int .i64 a2_0, .int .i64 a2_1, .int .i64 0, .int .i64 (-1), .int .i64 0]) ?_ 5 _ rfl; (with_reducible repeat (first | refine blk_drewN ?_ _ | refine blk_drew ?_ | refine blk_alloc ?_ _)); refine blk_put (cs := #[.bool true, .int .i64 a2_0, .int .i64 a2_1, .int .i64 0, .int .i64 0, .int .i64 0]) ?_ 4 _ rfl; (with_reducible repeat (first | refine blk_drewN ?_ _ | refine blk_drew ?_ | refine blk_alloc ?_ _)); refine blk_put (cs := #[.bool true, .int .i64 a2_0, .int .i64 a2_1, .int .i64 0, .int .i64 0, .int .i64 0]) ?_ 3 _ rfl; (with_reducible repeat (first | refine blk_drewN ?_ _ | refine blk_drew ?_ | refine blk_alloc ?_ _)); refine blk_put (cs := #[.bool true, .int .i64 a2_0, .int .i64 0, .int .i64 0, .int .i64 0, .int .i64 0]) ?_ 2 _ rfl; (with_reducible repeat (first | refine blk_drewN ?_ _ | refine blk_drew ?_ | refine blk_alloc ?_ _)); refine blk_put (cs := #[.bool true, .int .i64 0, .int .i64 0, .int .i64 0, .int .i64 0, .int .i64 0]) ?_ 1 _ rfl; (with_reducible repeat (first | refine blk_drewN ?_ _ | refine blk_drew ?_ | refine blk_alloc ?_ _)); refine blk_put (cs := #[.bool false, .int .i64 0, .int .i64 0, .int .i64 0, .int .i64 0, .int .i64 0]) ?_ 0 _ rfl; (with_reducible repeat (first | refine blk_drewN ?_ _ | refine blk_drew ?_ | refine blk_alloc ?_ _)); exact BK307.out⟩, ⟨by repeat (first | (with_reducible first | exact HB.out | apply below_alloc | apply pw_below_drewN | apply below_drew1 | refine below_set ?_ GE302.out | refine below_set ?_ GE303.out | refine below_set ?_ GE307.out) | exact HB.out)⟩⟩
    case round =>
     clear H'
     (try clear c1); (try clear c2); (try clear p2); (try clear c3); (try clear c6); (try clear c9); (try clear c11); (try clear c13); (try clear c14); (try clear c20); (try clear c26); (try clear c29); (try clear c30); (try clear c33); (try clear c34); (try clear c37); (try clear c38); (try clear hcz15_0); (try clear hcz15_1); (try clear hcz15_2); (try clear hcz15_3); (try clear hcz15_4); (try clear hcz18_0); (try clear hcz18_1); (try clear hcz21_0); (try clear hcz21_1); (try clear hcz21_2); (try clear hcz21_3); (try clear hcz21_4); (try clear hcz24_0); (try clear hcz24_1); (try clear hcz27_0); (try clear hcz27_1); (try clear hcz27_2); (try clear hcz27_3); (try clear hcz27_4); (try clear hcz31_0); (try clear hcz31_1); (try clear hcz31_2); (try clear hcz31_3); (try clear hcz31_4); (try clear hcz35_0); (try clear hcz35_1); (try clear hcz39_0); (try clear hcz39_1); (try clear hcz39_2); (try clear hcz39_3); (try clear hcz39_4); (try clear hcz39_5); (try clear hfz15_0); (try clear hfz15_1); (try clear hfz15_2); (try clear hfz15_3); (try clear hfz15_4); (try clear hfz18_0); (try clear hfz18_1); (try clear hfz21_0); (try clear hfz21_1); (try clear hfz21_2); (try clear hfz21_3); (try clear hfz21_4); (try clear hfz24_0); (try clear hfz24_1); (try clear hfz27_0); (try clear hfz27_1); (try clear hfz27_2); (try clear hfz27_3); (try clear hfz27_4); (try clear hfz31_0); (try clear hfz31_1); (try clear hfz31_2); (try clear hfz31_3); (try clear hfz31_4); (try clear hfz35_0); (try clear hfz35_1); (try clear hfz39_0); (try clear hfz39_1); (try clear hfz39_2); (try clear hfz39_3); (try clear hfz39_4); (try clear hfz39_5); (try clear p2)
     obtain ⟨x10_2, x35_2, x308000_2, x308001_2, x308002_2, x308003_2, x308004_2, x308005_2, rfl, HA, HK2, HO_10, BK302, BK303, BK307, HB⟩ := hrel
     cases gk with
     | zero => exact absurd HA.out (by simp [impl_Run.l0])
     | succ k2 =>
      have H := HA.out
      clear HA
      simp only [impl_Run.l0] at H
      by_cases c40 : x35_2 < (l3.length : Int)
      ·rw [if_pos c40] at H
       have c40b0 : decide (x35_2 < (l3.length : Int)) = true := decide_eq_true c40
       clear c40
       by_cases c41 : 0 ≤ x35_2
       ·rw [if_pos c41] at H
        have c41b0 : decide (0 ≤ x35_2) = true := decide_eq_true c41
        clear c41
        by_cases c42 : x35_2 < (l3.length : Int)
        ·rw [if_pos c42] at H
         have c42b0 : decide (x35_2 < (l3.length : Int)) = true := decide_eq_true c42
         clear c42
         replace H := Option.bind_eq_some_iff.mp H
         obtain ⟨t310, A430, H⟩ := H
         replace H : (if t310 = true then ((impl_do.f k2 a0_0 a0_1 a0_2 a0_3 a0_4 l1 x308000_2 x308001_2 x308002_2 x308003_2 x308004_2 x308005_2 ((rd_T34 l3 x35_2).f0) ((rd_T34 l3 x35_2).f1)).bind fun bt311 => (if x10_2.length < 2932031007402 then (impl_Run.l0 k2 l1 (x10_2 ++ [(⟨bt311.1, (⟨bt311.2.1, bt311.2.2.1⟩ : S27), bt311.2.2.2.1, bt311.2.2.2.2.1, bt311.2.2.2.2.2⟩ : S29)]) l3 (l3.length : Int) (wrap64 (x35_2 + 1)) a0_0 a0_1 a0_2 a0_3 a0_4 bt311.1 bt311.2.1 bt311.2.2.1 bt311.2.2.2.1 bt311.2.2.2.2.1 bt311.2.2.2.2.2) else (none))) else (some ([] : List (S29)))) = some r := H
         have A43 := Aside0.mk A430
         clear A430
         by_cases c44 : t310 = true
         ·subst c44
          have H1 : ((impl_do.f k2 a0_0 a0_1 a0_2 a0_3 a0_4 l1 x308000_2 x308001_2 x308002_2 x308003_2 x308004_2 x308005_2 ((rd_T34 l3 x35_2).f0) ((rd_T34 l3 x35_2).f1)).bind fun bt311 => (if x10_2.length < 2932031007402 then (impl_Run.l0 k2 l1 (x10_2 ++ [(⟨bt311.1, (⟨bt311.2.1, bt311.2.2.1⟩ : S27), bt311.2.2.2.1, bt311.2.2.2.2.1, bt311.2.2.2.2.2⟩ : S29)]) l3 (l3.length : Int) (wrap64 (x35_2 + 1)) a0_0 a0_1 a0_2 a0_3 a0_4 bt311.1 bt311.2.1 bt311.2.2.1 bt311.2.2.2.1 bt311.2.2.2.2.1 bt311.2.2.2.2.2) else (none))) = some r := by rw [if_pos rfl] at H; exact H
          clear H
          have H := H1
          clear H1
          replace H := Option.bind_eq_some_iff.mp H
          obtain ⟨⟨t311, t312, t313, t314, t315, t316⟩, A450, H⟩ := H
          replace H : (if x10_2.length < 2932031007402 then (impl_Run.l0 k2 l1 (x10_2 ++ [(⟨t311, (⟨t312, t313⟩ : S27), t314, t315, t316⟩ : S29)]) l3 (l3.length : Int) (wrap64 (x35_2 + 1)) a0_0 a0_1 a0_2 a0_3 a0_4 t311 t312 t313 t314 t315 t316) else (none)) = some r := H
          have A45 := Aside0.mk A450
          clear A450
          by_cases c46 : x10_2.length < 2932031007402
          ·rw [if_pos c46] at H
           have LMc46 := Aside0.mk c46
           clear c46
           obtain ⟨y317, hy317⟩ : ∃ y_ : List (S29), y_ = (x10_2 ++ [(⟨t311, (⟨t312, t313⟩ : S27), t314, t315, t316⟩ : S29)]) := ⟨_, rfl⟩
           replace H : (impl_Run.l0 k2 l1 y317 l3 (l3.length : Int) (wrap64 (x35_2 + 1)) a0_0 a0_1 a0_2 a0_3 a0_4 t311 t312 t313 t314 t315 t316) = some r := by first | (rw [hy317]; with_reducible exact H) | (have H2_ := (Option.bind_some _ _).symm.trans H; rw [hy317]; with_reducible exact H2_) | (have H2_ := (Option.bind_some _ _).symm.trans H; with_reducible exact H2_) | with_reducible exact H | (rw [hy317]; exact H) | exact H
           have Ny317 := Aside0.mk hy317
           clear hy317
           have H' := Aside0.mk H
           clear H
           have p308 : 0 ≤ (x35_2 : Int) := of_decide_eq_true (by first | (with_reducible assumption) | assumption)
           have q308 : x35_2 < (l3.length : Int) := of_decide_eq_true (by first | (with_reducible assumption) | assumption)
           obtain ⟨ad308, e308, hx308_0, hx308_1⟩ := at_T34 HR3.out x35_2 p308 q308
           cases e308
           replace hx308_0 := (HB.out.cell (World.block_lt_of_cell? w _ hx308_0)).trans hx308_0
           replace hx308_1 := (HB.out.cell (World.block_lt_of_cell? w _ hx308_1)).trans hx308_1
           replace p308 := eq_true p308
           replace q308 := eq_true q308
           go_wp2_with (first | ((with_reducible refine gate_dst (N := 12) rfl ?_); (try (refine gate_guard (by rfl) ?_; dsimp only)); refine zx 12 #[.int .i64 0, .int .i64 0] 34 ?_; intro gb309 hg w47 hbox hb; have BK309 := Aside0.mk (hbox); have GW309 := zge HB hg; have GE309 := GW309; have NB302_309 := zl BK302 hg; have NB309_302 := zg BK302 hg; have NB303_309 := zl BK303 hg; have NB309_303 := zg BK303 hg; have NB307_309 := zl BK307 hg; have NB309_307 := zg BK307 hg; replace BK302 := zb BK302 hb; replace BK303 := zb BK303 hb; replace BK307 := zb BK307 hb; replace HB := zB HB hb; replace HO_10 := Aside0.mk (Kd.R_below (zr HO_10) hb); clear hb hbox hg; have hnb48 := NB309_302.out; have hnc48 := NB302_309.out; have hnb49 := NB309_303.out; have hnc49 := NB303_309.out; have hnb50 := NB309_307.out; have hnc50 := NB307_309.out; obtain ⟨hcz51_0, hcz51_1, hfz51_0, hfz51_1⟩ := zs2 BK309) | ((with_reducible refine gate_callee (f := 65) rfl ?_); refine zL (some 40) Try.func65 #[.agg #[.int .i64 ((rd_T34 l3 x35_2).f0), .int .i64 ((rd_T34 l3 x35_2).f1)]] ?_; (with_reducible refine (impl_EventOk.calls ((rd_T34 l3 x35_2).f0) ((rd_T34 l3 x35_2).f1) true _ A43.out).mono ?_); rintro e w52 ⟨rfl, hb⟩; refine ⟨_, rfl, ?_⟩; have n0_ := Aside0.mk (Kd.R_below (by (with_reducible repeat (first | apply Kd.R_alloc | apply Kd.R_drewN | apply Kd.R_drew)); exact (Kd.R_mono (Kd.R_far (p := ⟨gb309, 1, none⟩) (Kd.R_far (p := ⟨gb309, 0, none⟩) (Kd.R_types HO_10.out BK309.out (by decide)) (fun _ hk => hk.2) (.int .i64 ((rd_T34 l3 x35_2).f0))) (fun _ hk => hk.2) (.int .i64 ((rd_T34 l3 x35_2).f1))) (fun _ h_ => h_.1))) hb); have n1_ := Aside0.mk (blk_below (g := gb302) (o := .cells #[.int .i64 a0_0, .int .i64 a0_1, .int .i64 a0_2, .int .i64 a0_3, .int .i64 a0_4] 24 (0, 0)) (by (with_reducible repeat (first | refine blk_drewN ?_ _ | refine blk_drew ?_ | refine blk_alloc ?_ _)); refine blk_far ?_ NB302_309.out _; (with_reducible repeat (first | refine blk_drewN ?_ _ | refine blk_drew ?_ | refine blk_alloc ?_ _)); refine blk_far ?_ NB302_309.out _; (with_reducible repeat (first | refine blk_drewN ?_ _ | refine blk_drew ?_ | refine blk_alloc ?_ _)); exact BK302.out) hb); have n2_ := Aside0.mk (blk_below (g := gb303) (o := .cells #[.int .i64 a2_0, .int .i64 a2_1] 27 (0, 0)) (by (with_reducible repeat (first | refine blk_drewN ?_ _ | refine blk_drew ?_ | refine blk_alloc ?_ _)); refine blk_far ?_ NB303_309.out _; (with_reducible repeat (first | refine blk_drewN ?_ _ | refine blk_drew ?_ | refine blk_alloc ?_ _)); refine blk_far ?_ NB303_309.out _; (with_reducible repeat (first | refine blk_drewN ?_ _ | refine blk_drew ?_ | refine blk_alloc ?_ _)); exact BK303.out) hb); have n3_ := Aside0.mk (blk_below (g := gb307) (o := .cells #[.bool x308000_2, .int .i64 x308001_2, .int .i64 x308002_2, .int .i64 x308003_2, .int .i64 x308004_2, .int .i64 x308005_2] 29 (0, 0)) (by (with_reducible repeat (first | refine blk_drewN ?_ _ | refine blk_drew ?_ | refine blk_alloc ?_ _)); refine blk_far ?_ NB307_309.out _; (with_reducible repeat (first | refine blk_drewN ?_ _ | refine blk_drew ?_ | refine blk_alloc ?_ _)); refine blk_far ?_ NB307_309.out _; (with_reducible repeat (first | refine blk_drewN ?_ _ | refine blk_drew ?_ | refine blk_alloc ?_ _)); exact BK307.out) hb); have n4_ := Aside0.mk (blk_below (g := gb309) (o := .cells #[.int .i64 ((rd_T34 l3 x35_2).f0), .int .i64 ((rd_T34 l3 x35_2).f1)] 34 (0, 0)) (by (with_reducible repeat (first | refine blk_drewN ?_ _ | refine blk_drew ?_ | refine blk_alloc ?_ _)); refine blk_put (cs := #[.int .i64 ((rd_T34 l3 x35_2).f0), .int .i64 0]) ?_ 1 _ rfl; (with_reducible repeat (first | refine blk_drewN ?_ _ | refine blk_drew ?_ | refine blk_alloc ?_ _)); refine blk_put (cs := #[.int .i64 0, .int .i64 0]) ?_ 0 _ rfl; (with_reducible repeat (first | refine blk_drewN ?_ _ | refine blk_drew ?_ | refine blk_alloc ?_ _)); exact BK309.out) hb); have n5_ := Aside0.mk (below_step (by repeat (first | (with_reducible first | exact HB.out | apply below_alloc | apply pw_below_drewN | apply below_drew1 | refine below_set ?_ GE302.out | refine below_set ?_ GE303.out | refine below_set ?_ GE307.out | refine below_set ?_ GE309.out) | exact HB.out)) hb); clear HO_10 BK302 BK303 BK307 BK309 HB; have HO_10 := n0_; have BK302 := n1_; have BK303 := n2_; have BK307 := n3_; have BK309 := n4_; have HB := n5_; clear n0_ n1_ n2_ n3_ n4_ n5_; (try clear hb); have hnb53 := NB302_303.out; have hnc53 := NB303_302.out; have hnb54 := NB302_307.out; have hnc54 := NB307_302.out; obtain ⟨hcz55_0, hcz55_1, hcz55_2, hcz55_3, hcz55_4, hfz55_0, hfz55_1, hfz55_2, hfz55_3, hfz55_4⟩ := zs5 BK302; have hnb56 := NB307_303.out; have hnc56 := NB303_307.out; obtain ⟨hcz57_0, hcz57_1, hcz57_2, hcz57_3, hcz57_4, hcz57_5, hfz57_0, hfz57_1, hfz57_2, hfz57_3, hfz57_4, hfz57_5⟩ := zs6 BK307; obtain ⟨hcz58_0, hcz58_1, hfz58_0, hfz58_1⟩ := zs2 BK309) | ((with_reducible refine gate_callee (f := 66) rfl ?_); refine zL (some 46) Try.func66 #[.agg #[.int .i64 a0_0, .int .i64 a0_1, .int .i64 a0_2, .int .i64 a0_3, .int .i64 a0_4], .slice A1 l1.length c1, .agg #[.bool x308000_2, .int .i64 x308001_2, .int .i64 x308002_2, .int .i64 x308003_2, .int .i64 x308004_2, .int .i64 x308005_2], .agg #[.int .i64 ((rd_T34 l3 x35_2).f0), .int .i64 ((rd_T34 l3 x35_2).f1)]] ?_; (with_reducible refine (impl_do.calls k2 a0_0 a0_1 a0_2 a0_3 a0_4 _ _ l1 x308000_2 x308001_2 x308002_2 x308003_2 x308004_2 x308005_2 ((rd_T34 l3 x35_2).f0) ((rd_T34 l3 x35_2).f1) t311 t312 t313 t314 t315 t316 _ ?side1 ?side2 A45.out).mono ?_); (case side1 => repeat (first | exact (Kd.C_below HR1.out HB.out) | (with_reducible refine Kd.C_alloc ?_ _) | (with_reducible refine Kd.C_drewN ?_ _) | (with_reducible refine Kd.C_drew ?_))); (case side2 => exact HC1.out); rintro e w59 ⟨rfl, hb⟩; refine ⟨_, rfl, ?_⟩; replace BK302 := zb BK302 hb; replace BK303 := zb BK303 hb; replace BK307 := zb BK307 hb; replace BK309 := zb BK309 hb; replace HB := zB HB hb; replace HO_10 := Aside0.mk (Kd.R_below (zr HO_10) hb); (try clear hb); obtain ⟨hcz60_0, hcz60_1, hcz60_2, hcz60_3, hcz60_4, hcz60_5, hfz60_0, hfz60_1, hfz60_2, hfz60_3, hfz60_4, hfz60_5⟩ := zs6 BK307) | ((with_reducible refine gate_builtin (b := .append) (xs := #[.tmp 47, .tmp 49]) rfl ?_); (try (refine gate_guard (by rfl) ?_; dsimp only)); at_builtin; refine Kd.R_append k29 (w0 := w) w.heap.size rfl (.tmp 47) (.tmp 49) 55 29 (.agg #[(.bool false), (.int .i64 0), (.int .i64 0), (.int .i64 0), (.int .i64 0), (.int .i64 0)]) 48 rfl Try.underlying55 info29 rfl (by decide) (by omega) u10 x10_2 (⟨t311, (⟨t312, t313⟩ : S27), t314, t315, t316⟩ : S29) [.bool t311, .int .i64 t312, .int .i64 t313, .int .i64 t314, .int .i64 t315, .int .i64 t316] (fun k_ => k_ ≠ gb307) (fun _ => False) rfl (by first | (go_simp; done) | (go_simp; rfl)) ?aP (fun _ hk => hk.elim) ?aF ?aO ?aB ?aS ?aL ?_; (case aP => exact k29_mkM _ _ _ (⟨t311, (⟨t312, t313⟩ : S27), t314, t315, t316⟩ : S29)); (case aB => exact (by repeat (first | (with_reducible first | exact HB.out | apply below_alloc | apply pw_below_drewN | apply below_drew1 | refine below_set ?_ GE302.out | refine below_set ?_ GE303.out | refine below_set ?_ GE307.out | refine below_set ?_ GE309.out) | exact HB.out))); (case aF => exact (fun k_ hk => Kd.freshB (g := gb307) (o := .cells #[.bool t311, .int .i64 t312, .int .i64 t313, .int .i64 t314, .int .i64 t315, .int .i64 t316] 29 (0, 0)) (by (with_reducible repeat (first | refine blk_drewN ?_ _ | refine blk_drew ?_ | refine blk_alloc ?_ _)); refine blk_put (cs := #[.bool t311, .int .i64 t312, .int .i64 t313, .int .i64 t314, .int .i64 t315, .int .i64 x308005_2]) ?_ 5 _ rfl; (with_reducible repeat (first | refine blk_drewN ?_ _ | refine blk_drew ?_ | refine blk_alloc ?_ _)); refine blk_put (cs := #[.bool t311, .int .i64 t312, .int .i64 t313, .int .i64 t314, .int .i64 x308004_2, .int .i64 x308005_2]) ?_ 4 _ rfl; (with_reducible repeat (first | refine blk_drewN ?_ _ | refine blk_drew ?_ | refine blk_alloc ?_ _)); refine blk_put (cs := #[.bool t311, .int .i64 t312, .int .i64 t313, .int .i64 x308003_2, .int .i64 x308004_2, .int .i64 x308005_2]) ?_ 3 _ rfl; (with_reducible repeat (first | refine blk_drewN ?_ _ | refine blk_drew ?_ | refine blk_alloc ?_ _)); refine blk_put (cs := #[.bool t311, .int .i64 t312, .int .i64 x308002_2, .int .i64 x308003_2, .int .i64 x308004_2, .int .i64 x308005_2]) ?_ 2 _ rfl; (with_reducible repeat (first | refine blk_drewN ?_ _ | refine blk_drew ?_ | refine blk_alloc ?_ _)); refine blk_put (cs := #[.bool t311, .int .i64 x308001_2, .int .i64 x308002_2, .int .i64 x308003_2, .int .i64 x308004_2, .int .i64 x308005_2]) ?_ 1 _ rfl; (with_reducible repeat (first | refine blk_drewN ?_ _ | refine blk_drew ?_ | refine blk_alloc ?_ _)); refine blk_put (cs := #[.bool x308000_2, .int .i64 x308001_2, .int .i64 x308002_2, .int .i64 x308003_2, .int .i64 x308004_2, .int .i64 x308005_2]) ?_ 0 _ rfl; (with_reducible repeat (first | refine blk_drewN ?_ _ | refine blk_drew ?_ | refine blk_alloc ?_ _)); exact BK307.out) k_ hk)); (case aO => exact (by (with_reducible repeat (first | apply Kd.R_alloc | apply Kd.R_drewN | apply Kd.R_drew)); exact Kd.R_mono (Kd.R_far (p := ⟨gb307, 5, none⟩) (Kd.R_far (p := ⟨gb307, 4, none⟩) (Kd.R_far (p := ⟨gb307, 3, none⟩) (Kd.R_far (p := ⟨gb307, 2, none⟩) (Kd.R_far (p := ⟨gb307, 1, none⟩) (Kd.R_far (p := ⟨gb307, 0, none⟩) (Kd.R_mono HO_10.out (fun k_ hk => (⟨hk, hk⟩ : _ ∧ k_ ≠ gb307))) (fun _ hk => hk.2) (.bool t311)) (fun _ hk => hk.2) (.int .i64 t312)) (fun _ hk => hk.2) (.int .i64 t313)) (fun _ hk => hk.2) (.int .i64 t314)) (fun _ hk => hk.2) (.int .i64 t315)) (fun _ hk => hk.2) (.int .i64 t316)) (fun _ hk => hk.1))); (case aS => exact (below_size (by repeat (first | (with_reducible first | exact HB.out | apply below_alloc | apply pw_below_drewN | apply below_drew1 | refine below_set ?_ GE302.out | refine below_set ?_ GE303.out | refine below_set ?_ GE307.out | refine below_set ?_ GE309.out) | exact HB.out)))); (case aL => have := LMc46.out; omega); intro v318 w61 ho hb hg hat; rw [← Ny317.out] at ho; have n0_ := Aside0.mk (blk_grown (g := gb302) (o := .cells #[.int .i64 a0_0, .int .i64 a0_1, .int .i64 a0_2, .int .i64 a0_3, .int .i64 a0_4] 24 (0, 0)) (by (with_reducible repeat (first | refine blk_drewN ?_ _ | refine blk_drew ?_ | refine blk_alloc ?_ _)); refine blk_far ?_ NB302_307.out _; (with_reducible repeat (first | refine blk_drewN ?_ _ | refine blk_drew ?_ | refine blk_alloc ?_ _)); refine blk_far ?_ NB302_307.out _; (with_reducible repeat (first | refine blk_drewN ?_ _ | refine blk_drew ?_ | refine blk_alloc ?_ _)); refine blk_far ?_ NB302_307.out _; (with_reducible repeat (first | refine blk_drewN ?_ _ | refine blk_drew ?_ | refine blk_alloc ?_ _)); refine blk_far ?_ NB302_307.out _; (with_reducible repeat (first | refine blk_drewN ?_ _ | refine blk_drew ?_ | refine blk_alloc ?_ _)); refine blk_far ?_ NB302_307.out _; (with_reducible repeat (first | refine blk_drewN ?_ _ | refine blk_drew ?_ | refine blk_alloc ?_ _)); refine blk_far ?_ NB302_307.out _; (with_reducible repeat (first | refine blk_drewN ?_ _ | refine blk_drew ?_ | refine blk_alloc ?_ _)); exact BK302.out) hg (Kd.R_ne HO_10.out BK302.out (by decide))); have n1_ := Aside0.mk (blk_grown (g := gb303) (o := .cells #[.int .i64 a2_0, .int .i64 a2_1] 27 (0, 0)) (by (with_reducible repeat (first | refine blk_drewN ?_ _ | refine blk_drew ?_ | refine blk_alloc ?_ _)); refine blk_far ?_ NB303_307.out _; (with_reducible repeat (first | refine blk_drewN ?_ _ | refine blk_drew ?_ | refine blk_alloc ?_ _)); refine blk_far ?_ NB303_307.out _; (with_reducible repeat (first | refine blk_drewN ?_ _ | refine blk_drew ?_ | refine blk_alloc ?_ _)); refine blk_far ?_ NB303_307.out _; (with_reducible repeat (first | refine blk_drewN ?_ _ | refine blk_drew ?_ | refine blk_alloc ?_ _)); refine blk_far ?_ NB303_307.out _; (with_reducible repeat (first | refine blk_drewN ?_ _ | refine blk_drew ?_ | refine blk_alloc ?_ _)); refine blk_far ?_ NB303_307.out _; (with_reducible repeat (first | refine blk_drewN ?_ _ | refine blk_drew ?_ | refine blk_alloc ?_ _)); refine blk_far ?_ NB303_307.out _; (with_reducible repeat (first | refine blk_drewN ?_ _ | refine blk_drew ?_ | refine blk_alloc ?_ _)); exact BK303.out) hg (Kd.R_ne HO_10.out BK303.out (by decide))); have n2_ := Aside0.mk (blk_grown (g := gb307) (o := .cells #[.bool t311, .int .i64 t312, .int .i64 t313, .int .i64 t314, .int .i64 t315, .int .i64 t316] 29 (0, 0)) (by (with_reducible repeat (first | refine blk_drewN ?_ _ | refine blk_drew ?_ | refine blk_alloc ?_ _)); refine blk_put (cs := #[.bool t311, .int .i64 t312, .int .i64 t313, .int .i64 t314, .int .i64 t315, .int .i64 x308005_2]) ?_ 5 _ rfl; (with_reducible repeat (first | refine blk_drewN ?_ _ | refine blk_drew ?_ | refine blk_alloc ?_ _)); refine blk_put (cs := #[.bool t311, .int .i64 t312, .int .i64 t313, .int .i64 t314, .int .i64 x308004_2, .int .i64 x308005_2]) ?_ 4 _ rfl; (with_reducible repeat (first | refine blk_drewN ?_ _ | refine blk_drew ?_ | refine blk_alloc ?_ _)); refine blk_put (cs := #[.bool t311, .int .i64 t312, .int .i64 t313, .int .i64 x308003_2, .int .i64 x308004_2, .int .i64 x308005_2]) ?_ 3 _ rfl; (with_reducible repeat (first | refine blk_drewN ?_ _ | refine blk_drew ?_ | refine blk_alloc ?_ _)); refine blk_put (cs := #[.bool t311, .int .i64 t312, .int .i64 x308002_2, .int .i64 x308003_2, .int .i64 x308004_2, .int .i64 x308005_2]) ?_ 2 _ rfl; (with_reducible repeat (first | refine blk_drewN ?_ _ | refine blk_drew ?_ | refine blk_alloc ?_ _)); refine blk_put (cs := #[.bool t311, .int .i64 x308001_2, .int .i64 x308002_2, .int .i64 x308003_2, .int .i64 x308004_2, .int .i64 x308005_2]) ?_ 1 _ rfl; (with_reducible repeat (first | refine blk_drewN ?_ _ | refine blk_drew ?_ | refine blk_alloc ?_ _)); refine blk_put (cs := #[.bool x308000_2, .int .i64 x308001_2, .int .i64 x308002_2, .int .i64 x308003_2, .int .i64 x308004_2, .int .i64 x308005_2]) ?_ 0 _ rfl; (with_reducible repeat (first | refine blk_drewN ?_ _ | refine blk_drew ?_ | refine blk_alloc ?_ _)); exact BK307.out) hg (Kd.R_away HO_10.out (fun _ hk => hk))); have n3_ := Aside0.mk (blk_grown (g := gb309) (o := .cells #[.int .i64 ((rd_T34 l3 x35_2).f0), .int .i64 ((rd_T34 l3 x35_2).f1)] 34 (0, 0)) (by (with_reducible repeat (first | refine blk_drewN ?_ _ | refine blk_drew ?_ | refine blk_alloc ?_ _)); refine blk_far ?_ NB309_307.out _; (with_reducible repeat (first | refine blk_drewN ?_ _ | refine blk_drew ?_ | refine blk_alloc ?_ _)); refine blk_far ?_ NB309_307.out _; (with_reducible repeat (first | refine blk_drewN ?_ _ | refine blk_drew ?_ | refine blk_alloc ?_ _)); refine blk_far ?_ NB309_307.out _; (with_reducible repeat (first | refine blk_drewN ?_ _ | refine blk_drew ?_ | refine blk_alloc ?_ _)); refine blk_far ?_ NB309_307.out _; (with_reducible repeat (first | refine blk_drewN ?_ _ | refine blk_drew ?_ | refine blk_alloc ?_ _)); refine blk_far ?_ NB309_307.out _; (with_reducible repeat (first | refine blk_drewN ?_ _ | refine blk_drew ?_ | refine blk_alloc ?_ _)); refine blk_far ?_ NB309_307.out _; (with_reducible repeat (first | refine blk_drewN ?_ _ | refine blk_drew ?_ | refine blk_alloc ?_ _)); exact BK309.out) hg (Kd.R_ne HO_10.out BK309.out (by decide))); have n4_ := Aside0.mk (hb); have HO319 := Aside0.mk (ho); clear BK302 BK303 BK307 BK309 HB; have BK302 := n0_; have BK303 := n1_; have BK307 := n2_; have BK309 := n3_; have HB := n4_; clear n0_ n1_ n2_ n3_ n4_ HO_10 ho hb hg hat))
           go_roundg k2
           case measure => have := HJ4.out; have := HK2.out; omega
           case rel => exact ⟨(y317), (wrap64 (x35_2 + 1)), (t311), (t312), (t313), (t314), (t315), (t316), ze, H', ⟨by have := HJ4.out; have := HK2.out; omega⟩, ⟨zr HO319⟩, ⟨zy BK302⟩, ⟨zy BK303⟩, ⟨zy BK307⟩, ⟨by repeat (first | (with_reducible first | exact HB.out | apply below_alloc | apply pw_below_drewN | apply below_drew1 | refine below_set ?_ GE302.out | refine below_set ?_ GE303.out | refine below_set ?_ GE307.out | refine below_set ?_ GE309.out) | exact HB.out)⟩⟩
          ·rw [if_neg c46] at H
           exact absurd H (by simp)
         ·replace c44 := Bool.eq_false_iff.mpr c44
          subst c44
          have H1 : (some ([] : List (S29))) = some r := by rw [if_neg (show ¬ (false = true) by decide)] at H; exact H
          clear H
          have H := H1
          clear H1
          obtain rfl := Option.some.inj H
          have p308 : 0 ≤ (x35_2 : Int) := of_decide_eq_true (by first | (with_reducible assumption) | assumption)
          have q308 : x35_2 < (l3.length : Int) := of_decide_eq_true (by first | (with_reducible assumption) | assumption)
          obtain ⟨ad308, e308, hx308_0, hx308_1⟩ := at_T34 HR3.out x35_2 p308 q308
          cases e308
          replace hx308_0 := (HB.out.cell (World.block_lt_of_cell? w _ hx308_0)).trans hx308_0
          replace hx308_1 := (HB.out.cell (World.block_lt_of_cell? w _ hx308_1)).trans hx308_1
          replace p308 := eq_true p308
          replace q308 := eq_true q308
          go_wp2_with (first | ((with_reducible refine gate_dst (N := 12) rfl ?_); (try (refine gate_guard (by rfl) ?_; dsimp only)); refine zx 12 #[.int .i64 0, .int .i64 0] 34 ?_; intro gb309 hg w62 hbox hb; have BK309 := Aside0.mk (hbox); have GW309 := zge HB hg; have GE309 := GW309; have NB302_309 := zl BK302 hg; have NB309_302 := zg BK302 hg; have NB303_309 := zl BK303 hg; have NB309_303 := zg BK303 hg; have NB307_309 := zl BK307 hg; have NB309_307 := zg BK307 hg; replace BK302 := zb BK302 hb; replace BK303 := zb BK303 hb; replace BK307 := zb BK307 hb; replace HB := zB HB hb; replace HO_10 := Aside0.mk (Kd.R_below (zr HO_10) hb); clear hb hbox hg; have hnb63 := NB309_302.out; have hnc63 := NB302_309.out; have hnb64 := NB309_303.out; have hnc64 := NB303_309.out; have hnb65 := NB309_307.out; have hnc65 := NB307_309.out; obtain ⟨hcz66_0, hcz66_1, hfz66_0, hfz66_1⟩ := zs2 BK309) | ((with_reducible refine gate_callee (f := 65) rfl ?_); refine zL (some 40) Try.func65 #[.agg #[.int .i64 ((rd_T34 l3 x35_2).f0), .int .i64 ((rd_T34 l3 x35_2).f1)]] ?_; (with_reducible refine (impl_EventOk.calls ((rd_T34 l3 x35_2).f0) ((rd_T34 l3 x35_2).f1) false _ A43.out).mono ?_); rintro e w67 ⟨rfl, hb⟩; refine ⟨_, rfl, ?_⟩; have n0_ := Aside0.mk (Kd.R_below (by (with_reducible repeat (first | apply Kd.R_alloc | apply Kd.R_drewN | apply Kd.R_drew)); exact (Kd.R_mono (Kd.R_far (p := ⟨gb309, 1, none⟩) (Kd.R_far (p := ⟨gb309, 0, none⟩) (Kd.R_types HO_10.out BK309.out (by decide)) (fun _ hk => hk.2) (.int .i64 ((rd_T34 l3 x35_2).f0))) (fun _ hk => hk.2) (.int .i64 ((rd_T34 l3 x35_2).f1))) (fun _ h_ => h_.1))) hb); have n1_ := Aside0.mk (blk_below (g := gb302) (o := .cells #[.int .i64 a0_0, .int .i64 a0_1, .int .i64 a0_2, .int .i64 a0_3, .int .i64 a0_4] 24 (0, 0)) (by (with_reducible repeat (first | refine blk_drewN ?_ _ | refine blk_drew ?_ | refine blk_alloc ?_ _)); refine blk_far ?_ NB302_309.out _; (with_reducible repeat (first | refine blk_drewN ?_ _ | refine blk_drew ?_ | refine blk_alloc ?_ _)); refine blk_far ?_ NB302_309.out _; (with_reducible repeat (first | refine blk_drewN ?_ _ | refine blk_drew ?_ | refine blk_alloc ?_ _)); exact BK302.out) hb); have n2_ := Aside0.mk (blk_below (g := gb303) (o := .cells #[.int .i64 a2_0, .int .i64 a2_1] 27 (0, 0)) (by (with_reducible repeat (first | refine blk_drewN ?_ _ | refine blk_drew ?_ | refine blk_alloc ?_ _)); refine blk_far ?_ NB303_309.out _; (with_reducible repeat (first | refine blk_drewN ?_ _ | refine blk_drew ?_ | refine blk_alloc ?_ _)); refine blk_far ?_ NB303_309.out _; (with_reducible repeat (first | refine blk_drewN ?_ _ | refine blk_drew ?_ | refine blk_alloc ?_ _)); exact BK303.out) hb); have n3_ := Aside0.mk (blk_below (g := gb307) (o := .cells #[.bool x308000_2, .int .i64 x308001_2, .int .i64 x308002_2, .int .i64 x308003_2, .int .i64 x308004_2, .int .i64 x308005_2] 29 (0, 0)) (by (with_reducible repeat (first | refine blk_drewN ?_ _ | refine blk_drew ?_ | refine blk_alloc ?_ _)); refine blk_far ?_ NB307_309.out _; (with_reducible repeat (first | refine blk_drewN ?_ _ | refine blk_drew ?_ | refine blk_alloc ?_ _)); refine blk_far ?_ NB307_309.out _; (with_reducible repeat (first | refine blk_drewN ?_ _ | refine blk_drew ?_ | refine blk_alloc ?_ _)); exact BK307.out) hb); have n4_ := Aside0.mk (blk_below (g := gb309) (o := .cells #[.int .i64 ((rd_T34 l3 x35_2).f0), .int .i64 ((rd_T34 l3 x35_2).f1)] 34 (0, 0)) (by (with_reducible repeat (first | refine blk_drewN ?_ _ | refine blk_drew ?_ | refine blk_alloc ?_ _)); refine blk_put (cs := #[.int .i64 ((rd_T34 l3 x35_2).f0), .int .i64 0]) ?_ 1 _ rfl; (with_reducible repeat (first | refine blk_drewN ?_ _ | refine blk_drew ?_ | refine blk_alloc ?_ _)); refine blk_put (cs := #[.int .i64 0, .int .i64 0]) ?_ 0 _ rfl; (with_reducible repeat (first | refine blk_drewN ?_ _ | refine blk_drew ?_ | refine blk_alloc ?_ _)); exact BK309.out) hb); have n5_ := Aside0.mk (below_step (by repeat (first | (with_reducible first | exact HB.out | apply below_alloc | apply pw_below_drewN | apply below_drew1 | refine below_set ?_ GE302.out | refine below_set ?_ GE303.out | refine below_set ?_ GE307.out | refine below_set ?_ GE309.out) | exact HB.out)) hb); clear HO_10 BK302 BK303 BK307 BK309 HB; have HO_10 := n0_; have BK302 := n1_; have BK303 := n2_; have BK307 := n3_; have BK309 := n4_; have HB := n5_; clear n0_ n1_ n2_ n3_ n4_ n5_; (try clear hb)))
          go_ret
          exact ⟨_, by first | rfl | (simp [errW_none, errW_some] <;> rfl) | (simp [*, errW_none, errW_some] <;> rfl), by first | exact Kd.R_nil _ _ _ _ _ | exact Kd.N_nil _ _ _ _ _ | exact Kd.V_nil _ _ _ _ _ | exact Kd.Q_nil _ _ _ _ _ | exact Kd.S_nil _ _ _ _ _, by repeat (first | (with_reducible first | exact HB.out | apply below_alloc | apply pw_below_drewN | apply below_drew1 | refine below_set ?_ GE302.out | refine below_set ?_ GE303.out | refine below_set ?_ GE307.out | refine below_set ?_ GE309.out) | exact HB.out)⟩
        ·rw [if_neg c42] at H
         exact absurd H (by simp)
       ·rw [if_neg c41] at H
        exact absurd H (by simp)
      ·rw [if_neg c40] at H
       have c40b0 : decide (x35_2 < (l3.length : Int)) = false := decide_eq_false c40
       clear c40
       obtain rfl := Option.some.inj H
       go_wp2
       go_ret
       exact ⟨_, by first | rfl | (simp [errW_none, errW_some] <;> rfl) | (simp [*, errW_none, errW_some] <;> rfl), by (with_reducible repeat (first | apply Kd.R_alloc | apply Kd.R_drewN | apply Kd.R_drew)); exact Kd.R_mono HO_10.out (fun _ hk => trivial), by repeat (first | (with_reducible first | exact HB.out | apply below_alloc | apply pw_below_drewN | apply below_drew1 | refine below_set ?_ GE302.out | refine below_set ?_ GE303.out | refine below_set ?_ GE307.out) | exact HB.out)⟩

/-! ### laws_eqBound: function 75 -/
def laws_eqBound.f (a0_0 : Int) (a0_1 : Int) (a1_0 : Int) (a1_1 : Int) : Option (Bool) := if a0_0 = a1_0 then (if a0_1 = a1_1 then (some true) else (some false)) else (some false)
set_option maxHeartbeats 8000000 in
set_option maxRecDepth 100000 in
theorem laws_eqBound.calls (a0_0 : Int) (a0_1 : Int) (a1_0 : Int) (a1_1 : Int) (r : Bool) (w : World) (h : laws_eqBound.f a0_0 a0_1 a1_0 a1_1 = some r) :
  Calls Try.prog 75 #[.agg #[.int .i64 a0_0, .int .i64 a0_1], .agg #[.int .i64 a1_0, .int .i64 a1_1]] w fun e w' => e = .returned (.bool r) ∧ Below w.heap.size w w' := by
 have hu27 := Try.underlying27
 have HB := Aside0.mk (Below.refl w.heap.size w)
 have H : (if a0_0 = a1_0 then (if a0_1 = a1_1 then (some true) else (some false)) else (some false)) = some r := h
 clear h
 by_cases c3 : a0_0 = a1_0
 ·rw [if_pos c3] at H
  have c3b0 : (a0_0 == a1_0) = true := beq_iff_eq.mpr c3
  have c3b1 : (a0_0 != a1_0) = false := bne_eq_false_iff_eq.mpr c3
  clear c3
  by_cases c4 : a0_1 = a1_1
  ·rw [if_pos c4] at H
   have c4b0 : (a0_1 == a1_1) = true := beq_iff_eq.mpr c4
   have c4b1 : (a0_1 != a1_1) = false := bne_eq_false_iff_eq.mpr c4
   clear c4
   obtain rfl := Option.some.inj H
   go_enter Try.func75, Try.ntmps75
   go_wp2_with (first | ((with_reducible refine gate_dst (N := 2) rfl ?_); refine zx 2 #[.int .i64 a0_0, .int .i64 a0_1] 27 ?_; intro gb320 hg w5 hbox hb; have BK320 := Aside0.mk (hbox); have GW320 := zge HB hg; have GE320 := GW320; replace HB := zB HB hb; clear hb hbox hg) | ((with_reducible refine gate_dst (N := 3) rfl ?_); refine zx 3 #[.int .i64 a1_0, .int .i64 a1_1] 27 ?_; intro gb321 hg w6 hbox hb; have BK321 := Aside0.mk (hbox); have GW321 := zge HB hg; have GE321 := GW321; have NB320_321 := zl BK320 hg; have NB321_320 := zg BK320 hg; replace BK320 := zb BK320 hb; replace HB := zB HB hb; clear hb hbox hg; have hnb7 := NB320_321.out; have hnc7 := NB321_320.out; obtain ⟨hcz8_0, hcz8_1, hfz8_0, hfz8_1⟩ := zs2 BK320; obtain ⟨hcz9_0, hcz9_1, hfz9_0, hfz9_1⟩ := zs2 BK321))
   go_ret
   exact ⟨by first | rfl | (simp [errW_none, errW_some] <;> rfl) | (simp [*, errW_none, errW_some] <;> rfl), by repeat (first | (with_reducible first | exact HB.out | apply below_alloc | apply pw_below_drewN | apply below_drew1 | refine below_set ?_ GE320.out | refine below_set ?_ GE321.out) | exact HB.out)⟩
  ·rw [if_neg c4] at H
   have c4b0 : (a0_1 == a1_1) = false := beq_eq_false_iff_ne.mpr c4
   have c4b1 : (a0_1 != a1_1) = true := bne_iff_ne.mpr c4
   obtain rfl := Option.some.inj H
   go_enter Try.func75, Try.ntmps75
   go_wp2_with (first | ((with_reducible refine gate_dst (N := 2) rfl ?_); refine zx 2 #[.int .i64 a0_0, .int .i64 a0_1] 27 ?_; intro gb320 hg w10 hbox hb; have BK320 := Aside0.mk (hbox); have GW320 := zge HB hg; have GE320 := GW320; replace HB := zB HB hb; clear hb hbox hg) | ((with_reducible refine gate_dst (N := 3) rfl ?_); refine zx 3 #[.int .i64 a1_0, .int .i64 a1_1] 27 ?_; intro gb321 hg w11 hbox hb; have BK321 := Aside0.mk (hbox); have GW321 := zge HB hg; have GE321 := GW321; have NB320_321 := zl BK320 hg; have NB321_320 := zg BK320 hg; replace BK320 := zb BK320 hb; replace HB := zB HB hb; clear hb hbox hg; have hnb12 := NB320_321.out; have hnc12 := NB321_320.out; obtain ⟨hcz13_0, hcz13_1, hfz13_0, hfz13_1⟩ := zs2 BK320; obtain ⟨hcz14_0, hcz14_1, hfz14_0, hfz14_1⟩ := zs2 BK321))
   go_ret
   exact ⟨by first | rfl | (simp [errW_none, errW_some] <;> rfl) | (simp [*, errW_none, errW_some] <;> rfl), by repeat (first | (with_reducible first | exact HB.out | apply below_alloc | apply pw_below_drewN | apply below_drew1 | refine below_set ?_ GE320.out | refine below_set ?_ GE321.out) | exact HB.out)⟩
 ·rw [if_neg c3] at H
  have c3b0 : (a0_0 == a1_0) = false := beq_eq_false_iff_ne.mpr c3
  have c3b1 : (a0_0 != a1_0) = true := bne_iff_ne.mpr c3
  obtain rfl := Option.some.inj H
  go_enter Try.func75, Try.ntmps75
  go_wp2_with (first | ((with_reducible refine gate_dst (N := 2) rfl ?_); refine zx 2 #[.int .i64 a0_0, .int .i64 a0_1] 27 ?_; intro gb320 hg w15 hbox hb; have BK320 := Aside0.mk (hbox); have GW320 := zge HB hg; have GE320 := GW320; replace HB := zB HB hb; clear hb hbox hg) | ((with_reducible refine gate_dst (N := 3) rfl ?_); refine zx 3 #[.int .i64 a1_0, .int .i64 a1_1] 27 ?_; intro gb321 hg w16 hbox hb; have BK321 := Aside0.mk (hbox); have GW321 := zge HB hg; have GE321 := GW321; have NB320_321 := zl BK320 hg; have NB321_320 := zg BK320 hg; replace BK320 := zb BK320 hb; replace HB := zB HB hb; clear hb hbox hg; have hnb17 := NB320_321.out; have hnc17 := NB321_320.out; obtain ⟨hcz18_0, hcz18_1, hfz18_0, hfz18_1⟩ := zs2 BK320; obtain ⟨hcz19_0, hcz19_1, hfz19_0, hfz19_1⟩ := zs2 BK321))
  go_ret
  exact ⟨by first | rfl | (simp [errW_none, errW_some] <;> rfl) | (simp [*, errW_none, errW_some] <;> rfl), by repeat (first | (with_reducible first | exact HB.out | apply below_alloc | apply pw_below_drewN | apply below_drew1 | refine below_set ?_ GE320.out | refine below_set ?_ GE321.out) | exact HB.out)⟩

/-! ### laws_eqState: function 23 -/
def laws_eqState.f (a0_0 : Bool) (a0_1 : Int) (a0_2 : Int) (a0_3 : Int) (a0_4 : Int) (a0_5 : Int) (a1_0 : Bool) (a1_1 : Int) (a1_2 : Int) (a1_3 : Int) (a1_4 : Int) (a1_5 : Int) : Option (Bool) := if (a0_0 != a1_0) = true then (some false) else ((laws_eqBound.f a0_1 a0_2 a1_1 a1_2).bind fun t324 => (if t324 = true then (if a0_3 = a1_3 then (if a0_4 = a1_4 then (if a0_5 = a1_5 then (some true) else (some false)) else (some false)) else (some false)) else (some false)))
set_option maxHeartbeats 8000000 in
set_option maxRecDepth 100000 in
theorem laws_eqState.calls (a0_0 : Bool) (a0_1 : Int) (a0_2 : Int) (a0_3 : Int) (a0_4 : Int) (a0_5 : Int) (a1_0 : Bool) (a1_1 : Int) (a1_2 : Int) (a1_3 : Int) (a1_4 : Int) (a1_5 : Int) (r : Bool) (w : World) (h : laws_eqState.f a0_0 a0_1 a0_2 a0_3 a0_4 a0_5 a1_0 a1_1 a1_2 a1_3 a1_4 a1_5 = some r) :
  Calls Try.prog 23 #[.agg #[.bool a0_0, .int .i64 a0_1, .int .i64 a0_2, .int .i64 a0_3, .int .i64 a0_4, .int .i64 a0_5], .agg #[.bool a1_0, .int .i64 a1_1, .int .i64 a1_2, .int .i64 a1_3, .int .i64 a1_4, .int .i64 a1_5]] w fun e w' => e = .returned (.bool r) ∧ Below w.heap.size w w' := by
 have hu29 := Try.underlying29
 have hu27 := Try.underlying27
 have HB := Aside0.mk (Below.refl w.heap.size w)
 have H : (if (a0_0 != a1_0) = true then (some false) else ((laws_eqBound.f a0_1 a0_2 a1_1 a1_2).bind fun t324 => (if t324 = true then (if a0_3 = a1_3 then (if a0_4 = a1_4 then (if a0_5 = a1_5 then (some true) else (some false)) else (some false)) else (some false)) else (some false)))) = some r := h
 clear h
 by_cases c3 : (a0_0 != a1_0) = true
 ·rw [if_pos c3] at H
  have c3b0 : (a0_0 != a1_0) = true := c3
  (try (have c3b1 : decide (a0_0 = a1_0) = false := by simpa using c3))
  (try (have c3b2 : (a0_0 == a1_0) = false := by simpa using c3))
  (try (have c3b3 : ¬ (a0_0 = a1_0) := by simpa using c3))
  clear c3
  obtain rfl := Option.some.inj H
  go_enter Try.func23, Try.ntmps23
  go_wp2_with (first | ((with_reducible refine gate_dst (N := 2) rfl ?_); refine zx 2 #[.bool a0_0, .int .i64 a0_1, .int .i64 a0_2, .int .i64 a0_3, .int .i64 a0_4, .int .i64 a0_5] 29 ?_; intro gb322 hg w4 hbox hb; have BK322 := Aside0.mk (hbox); have GW322 := zge HB hg; have GE322 := GW322; replace HB := zB HB hb; clear hb hbox hg) | ((with_reducible refine gate_dst (N := 3) rfl ?_); refine zx 3 #[.bool a1_0, .int .i64 a1_1, .int .i64 a1_2, .int .i64 a1_3, .int .i64 a1_4, .int .i64 a1_5] 29 ?_; intro gb323 hg w5 hbox hb; have BK323 := Aside0.mk (hbox); have GW323 := zge HB hg; have GE323 := GW323; have NB322_323 := zl BK322 hg; have NB323_322 := zg BK322 hg; replace BK322 := zb BK322 hb; replace HB := zB HB hb; clear hb hbox hg; have hnb6 := NB322_323.out; have hnc6 := NB323_322.out; obtain ⟨hcz7_0, hcz7_1, hcz7_2, hcz7_3, hcz7_4, hcz7_5, hfz7_0, hfz7_1, hfz7_2, hfz7_3, hfz7_4, hfz7_5⟩ := zs6 BK322; obtain ⟨hcz8_0, hcz8_1, hcz8_2, hcz8_3, hcz8_4, hcz8_5, hfz8_0, hfz8_1, hfz8_2, hfz8_3, hfz8_4, hfz8_5⟩ := zs6 BK323))
  go_ret
  exact ⟨by first | rfl | (simp [errW_none, errW_some] <;> rfl) | (simp [*, errW_none, errW_some] <;> rfl), by repeat (first | (with_reducible first | exact HB.out | apply below_alloc | apply pw_below_drewN | apply below_drew1 | refine below_set ?_ GE322.out | refine below_set ?_ GE323.out) | exact HB.out)⟩
 ·rw [if_neg c3] at H
  have c3b0 : (a0_0 != a1_0) = false := by simpa using c3
  (try (have c3b1 : decide (a0_0 = a1_0) = true := by simpa using c3))
  (try (have c3b2 : (a0_0 == a1_0) = true := by simpa using c3))
  clear c3
  replace H := Option.bind_eq_some_iff.mp H
  obtain ⟨t324, A90, H⟩ := H
  replace H : (if t324 = true then (if a0_3 = a1_3 then (if a0_4 = a1_4 then (if a0_5 = a1_5 then (some true) else (some false)) else (some false)) else (some false)) else (some false)) = some r := H
  have A9 := Aside0.mk A90
  clear A90
  by_cases c10 : t324 = true
  ·subst c10
   have H1 : (if a0_3 = a1_3 then (if a0_4 = a1_4 then (if a0_5 = a1_5 then (some true) else (some false)) else (some false)) else (some false)) = some r := by rw [if_pos rfl] at H; exact H
   clear H
   have H := H1
   clear H1
   by_cases c11 : a0_3 = a1_3
   ·rw [if_pos c11] at H
    have c11b0 : (a0_3 == a1_3) = true := beq_iff_eq.mpr c11
    have c11b1 : (a0_3 != a1_3) = false := bne_eq_false_iff_eq.mpr c11
    clear c11
    by_cases c12 : a0_4 = a1_4
    ·rw [if_pos c12] at H
     have c12b0 : (a0_4 == a1_4) = true := beq_iff_eq.mpr c12
     have c12b1 : (a0_4 != a1_4) = false := bne_eq_false_iff_eq.mpr c12
     clear c12
     by_cases c13 : a0_5 = a1_5
     ·rw [if_pos c13] at H
      have c13b0 : (a0_5 == a1_5) = true := beq_iff_eq.mpr c13
      have c13b1 : (a0_5 != a1_5) = false := bne_eq_false_iff_eq.mpr c13
      clear c13
      obtain rfl := Option.some.inj H
      go_enter Try.func23, Try.ntmps23
      go_wp2_with (first | ((with_reducible refine gate_dst (N := 2) rfl ?_); refine zx 2 #[.bool a0_0, .int .i64 a0_1, .int .i64 a0_2, .int .i64 a0_3, .int .i64 a0_4, .int .i64 a0_5] 29 ?_; intro gb322 hg w14 hbox hb; have BK322 := Aside0.mk (hbox); have GW322 := zge HB hg; have GE322 := GW322; replace HB := zB HB hb; clear hb hbox hg) | ((with_reducible refine gate_dst (N := 3) rfl ?_); refine zx 3 #[.bool a1_0, .int .i64 a1_1, .int .i64 a1_2, .int .i64 a1_3, .int .i64 a1_4, .int .i64 a1_5] 29 ?_; intro gb323 hg w15 hbox hb; have BK323 := Aside0.mk (hbox); have GW323 := zge HB hg; have GE323 := GW323; have NB322_323 := zl BK322 hg; have NB323_322 := zg BK322 hg; replace BK322 := zb BK322 hb; replace HB := zB HB hb; clear hb hbox hg; have hnb16 := NB322_323.out; have hnc16 := NB323_322.out; obtain ⟨hcz17_0, hcz17_1, hcz17_2, hcz17_3, hcz17_4, hcz17_5, hfz17_0, hfz17_1, hfz17_2, hfz17_3, hfz17_4, hfz17_5⟩ := zs6 BK322; obtain ⟨hcz18_0, hcz18_1, hcz18_2, hcz18_3, hcz18_4, hcz18_5, hfz18_0, hfz18_1, hfz18_2, hfz18_3, hfz18_4, hfz18_5⟩ := zs6 BK323) | ((with_reducible refine gate_callee (f := 75) rfl ?_); refine zL (some 14) Try.func75 #[.agg #[.int .i64 a0_1, .int .i64 a0_2], .agg #[.int .i64 a1_1, .int .i64 a1_2]] ?_; (with_reducible refine (laws_eqBound.calls a0_1 a0_2 a1_1 a1_2 true _ A9.out).mono ?_); rintro e w19 ⟨rfl, hb⟩; refine ⟨_, rfl, ?_⟩; replace BK322 := zb BK322 hb; replace BK323 := zb BK323 hb; replace HB := zB HB hb; (try clear hb); obtain ⟨hcz20_0, hcz20_1, hcz20_2, hcz20_3, hcz20_4, hcz20_5, hfz20_0, hfz20_1, hfz20_2, hfz20_3, hfz20_4, hfz20_5⟩ := zs6 BK322; obtain ⟨hcz21_0, hcz21_1, hcz21_2, hcz21_3, hcz21_4, hcz21_5, hfz21_0, hfz21_1, hfz21_2, hfz21_3, hfz21_4, hfz21_5⟩ := zs6 BK323))
      go_ret
      exact ⟨by first | rfl | (simp [errW_none, errW_some] <;> rfl) | (simp [*, errW_none, errW_some] <;> rfl), by repeat (first | (with_reducible first | exact HB.out | apply below_alloc | apply pw_below_drewN | apply below_drew1 | refine below_set ?_ GE322.out | refine below_set ?_ GE323.out) | exact HB.out)⟩
     ·rw [if_neg c13] at H
      have c13b0 : (a0_5 == a1_5) = false := beq_eq_false_iff_ne.mpr c13
      have c13b1 : (a0_5 != a1_5) = true := bne_iff_ne.mpr c13
      obtain rfl := Option.some.inj H
      go_enter Try.func23, Try.ntmps23
      go_wp2_with (first | ((with_reducible refine gate_dst (N := 2) rfl ?_); refine zx 2 #[.bool a0_0, .int .i64 a0_1, .int .i64 a0_2, .int .i64 a0_3, .int .i64 a0_4, .int .i64 a0_5] 29 ?_; intro gb322 hg w22 hbox hb; have BK322 := Aside0.mk (hbox); have GW322 := zge HB hg; have GE322 := GW322; replace HB := zB HB hb; clear hb hbox hg) | ((with_reducible refine gate_dst (N := 3) rfl ?_); refine zx 3 #[.bool a1_0, .int .i64 a1_1, .int .i64 a1_2, .int .i64 a1_3, .int .i64 a1_4, .int .i64 a1_5] 29 ?_; intro gb323 hg w23 hbox hb; have BK323 := Aside0.mk (hbox); have GW323 := zge HB hg; have GE323 := GW323; have NB322_323 := zl BK322 hg; have NB323_322 := zg BK322 hg; replace BK322 := zb BK322 hb; replace HB := zB HB hb; clear hb hbox hg; have hnb24 := NB322_323.out; have hnc24 := NB323_322.out; obtain ⟨hcz25_0, hcz25_1, hcz25_2, hcz25_3, hcz25_4, hcz25_5, hfz25_0, hfz25_1, hfz25_2, hfz25_3, hfz25_4, hfz25_5⟩ := zs6 BK322; obtain ⟨hcz26_0, hcz26_1, hcz26_2, hcz26_3, hcz26_4, hcz26_5, hfz26_0, hfz26_1, hfz26_2, hfz26_3, hfz26_4, hfz26_5⟩ := zs6 BK323) | ((with_reducible refine gate_callee (f := 75) rfl ?_); refine zL (some 14) Try.func75 #[.agg #[.int .i64 a0_1, .int .i64 a0_2], .agg #[.int .i64 a1_1, .int .i64 a1_2]] ?_; (with_reducible refine (laws_eqBound.calls a0_1 a0_2 a1_1 a1_2 true _ A9.out).mono ?_); rintro e w27 ⟨rfl, hb⟩; refine ⟨_, rfl, ?_⟩; replace BK322 := zb BK322 hb; replace BK323 := zb BK323 hb; replace HB := zB HB hb; (try clear hb); obtain ⟨hcz28_0, hcz28_1, hcz28_2, hcz28_3, hcz28_4, hcz28_5, hfz28_0, hfz28_1, hfz28_2, hfz28_3, hfz28_4, hfz28_5⟩ := zs6 BK322; obtain ⟨hcz29_0, hcz29_1, hcz29_2, hcz29_3, hcz29_4, hcz29_5, hfz29_0, hfz29_1, hfz29_2, hfz29_3, hfz29_4, hfz29_5⟩ := zs6 BK323))
      go_ret
      exact ⟨by first | rfl | (simp [errW_none, errW_some] <;> rfl) | (simp [*, errW_none, errW_some] <;> rfl), by repeat (first | (with_reducible first | exact HB.out | apply below_alloc | apply pw_below_drewN | apply below_drew1 | refine below_set ?_ GE322.out | refine below_set ?_ GE323.out) | exact HB.out)⟩
    ·rw [if_neg c12] at H
     have c12b0 : (a0_4 == a1_4) = false := beq_eq_false_iff_ne.mpr c12
     have c12b1 : (a0_4 != a1_4) = true := bne_iff_ne.mpr c12
     obtain rfl := Option.some.inj H
     go_enter Try.func23, Try.ntmps23
     go_wp2_with (first | ((with_reducible refine gate_dst (N := 2) rfl ?_); refine zx 2 #[.bool a0_0, .int .i64 a0_1, .int .i64 a0_2, .int .i64 a0_3, .int .i64 a0_4, .int .i64 a0_5] 29 ?_; intro gb322 hg w30 hbox hb; have BK322 := Aside0.mk (hbox); have GW322 := zge HB hg; have GE322 := GW322; replace HB := zB HB hb; clear hb hbox hg) | ((with_reducible refine gate_dst (N := 3) rfl ?_); refine zx 3 #[.bool a1_0, .int .i64 a1_1, .int .i64 a1_2, .int .i64 a1_3, .int .i64 a1_4, .int .i64 a1_5] 29 ?_; intro gb323 hg w31 hbox hb; have BK323 := Aside0.mk (hbox); have GW323 := zge HB hg; have GE323 := GW323; have NB322_323 := zl BK322 hg; have NB323_322 := zg BK322 hg; replace BK322 := zb BK322 hb; replace HB := zB HB hb; clear hb hbox hg; have hnb32 := NB322_323.out; have hnc32 := NB323_322.out; obtain ⟨hcz33_0, hcz33_1, hcz33_2, hcz33_3, hcz33_4, hcz33_5, hfz33_0, hfz33_1, hfz33_2, hfz33_3, hfz33_4, hfz33_5⟩ := zs6 BK322; obtain ⟨hcz34_0, hcz34_1, hcz34_2, hcz34_3, hcz34_4, hcz34_5, hfz34_0, hfz34_1, hfz34_2, hfz34_3, hfz34_4, hfz34_5⟩ := zs6 BK323) | ((with_reducible refine gate_callee (f := 75) rfl ?_); refine zL (some 14) Try.func75 #[.agg #[.int .i64 a0_1, .int .i64 a0_2], .agg #[.int .i64 a1_1, .int .i64 a1_2]] ?_; (with_reducible refine (laws_eqBound.calls a0_1 a0_2 a1_1 a1_2 true _ A9.out).mono ?_); rintro e w35 ⟨rfl, hb⟩; refine ⟨_, rfl, ?_⟩; replace BK322 := zb BK322 hb; replace BK323 := zb BK323 hb; replace HB := zB HB hb; (try clear hb); obtain ⟨hcz36_0, hcz36_1, hcz36_2, hcz36_3, hcz36_4, hcz36_5, hfz36_0, hfz36_1, hfz36_2, hfz36_3, hfz36_4, hfz36_5⟩ := zs6 BK322; obtain ⟨hcz37_0, hcz37_1, hcz37_2, hcz37_3, hcz37_4, hcz37_5, hfz37_0, hfz37_1, hfz37_2, hfz37_3, hfz37_4, hfz37_5⟩ := zs6 BK323))
     go_ret
     exact ⟨by first | rfl | (simp [errW_none, errW_some] <;> rfl) | (simp [*, errW_none, errW_some] <;> rfl), by repeat (first | (with_reducible first | exact HB.out | apply below_alloc | apply pw_below_drewN | apply below_drew1 | refine below_set ?_ GE322.out | refine below_set ?_ GE323.out) | exact HB.out)⟩
   ·rw [if_neg c11] at H
    have c11b0 : (a0_3 == a1_3) = false := beq_eq_false_iff_ne.mpr c11
    have c11b1 : (a0_3 != a1_3) = true := bne_iff_ne.mpr c11
    obtain rfl := Option.some.inj H
    go_enter Try.func23, Try.ntmps23
    go_wp2_with (first | ((with_reducible refine gate_dst (N := 2) rfl ?_); refine zx 2 #[.bool a0_0, .int .i64 a0_1, .int .i64 a0_2, .int .i64 a0_3, .int .i64 a0_4, .int .i64 a0_5] 29 ?_; intro gb322 hg w38 hbox hb; have BK322 := Aside0.mk (hbox); have GW322 := zge HB hg; have GE322 := GW322; replace HB := zB HB hb; clear hb hbox hg) | ((with_reducible refine gate_dst (N := 3) rfl ?_); refine zx 3 #[.bool a1_0, .int .i64 a1_1, .int .i64 a1_2, .int .i64 a1_3, .int .i64 a1_4, .int .i64 a1_5] 29 ?_; intro gb323 hg w39 hbox hb; have BK323 := Aside0.mk (hbox); have GW323 := zge HB hg; have GE323 := GW323; have NB322_323 := zl BK322 hg; have NB323_322 := zg BK322 hg; replace BK322 := zb BK322 hb; replace HB := zB HB hb; clear hb hbox hg; have hnb40 := NB322_323.out; have hnc40 := NB323_322.out; obtain ⟨hcz41_0, hcz41_1, hcz41_2, hcz41_3, hcz41_4, hcz41_5, hfz41_0, hfz41_1, hfz41_2, hfz41_3, hfz41_4, hfz41_5⟩ := zs6 BK322; obtain ⟨hcz42_0, hcz42_1, hcz42_2, hcz42_3, hcz42_4, hcz42_5, hfz42_0, hfz42_1, hfz42_2, hfz42_3, hfz42_4, hfz42_5⟩ := zs6 BK323) | ((with_reducible refine gate_callee (f := 75) rfl ?_); refine zL (some 14) Try.func75 #[.agg #[.int .i64 a0_1, .int .i64 a0_2], .agg #[.int .i64 a1_1, .int .i64 a1_2]] ?_; (with_reducible refine (laws_eqBound.calls a0_1 a0_2 a1_1 a1_2 true _ A9.out).mono ?_); rintro e w43 ⟨rfl, hb⟩; refine ⟨_, rfl, ?_⟩; replace BK322 := zb BK322 hb; replace BK323 := zb BK323 hb; replace HB := zB HB hb; (try clear hb); obtain ⟨hcz44_0, hcz44_1, hcz44_2, hcz44_3, hcz44_4, hcz44_5, hfz44_0, hfz44_1, hfz44_2, hfz44_3, hfz44_4, hfz44_5⟩ := zs6 BK322; obtain ⟨hcz45_0, hcz45_1, hcz45_2, hcz45_3, hcz45_4, hcz45_5, hfz45_0, hfz45_1, hfz45_2, hfz45_3, hfz45_4, hfz45_5⟩ := zs6 BK323))
    go_ret
    exact ⟨by first | rfl | (simp [errW_none, errW_some] <;> rfl) | (simp [*, errW_none, errW_some] <;> rfl), by repeat (first | (with_reducible first | exact HB.out | apply below_alloc | apply pw_below_drewN | apply below_drew1 | refine below_set ?_ GE322.out | refine below_set ?_ GE323.out) | exact HB.out)⟩
  ·replace c10 := Bool.eq_false_iff.mpr c10
   subst c10
   have H1 : (some false) = some r := by rw [if_neg (show ¬ (false = true) by decide)] at H; exact H
   clear H
   have H := H1
   clear H1
   obtain rfl := Option.some.inj H
   go_enter Try.func23, Try.ntmps23
   go_wp2_with (first | ((with_reducible refine gate_dst (N := 2) rfl ?_); refine zx 2 #[.bool a0_0, .int .i64 a0_1, .int .i64 a0_2, .int .i64 a0_3, .int .i64 a0_4, .int .i64 a0_5] 29 ?_; intro gb322 hg w46 hbox hb; have BK322 := Aside0.mk (hbox); have GW322 := zge HB hg; have GE322 := GW322; replace HB := zB HB hb; clear hb hbox hg) | ((with_reducible refine gate_dst (N := 3) rfl ?_); refine zx 3 #[.bool a1_0, .int .i64 a1_1, .int .i64 a1_2, .int .i64 a1_3, .int .i64 a1_4, .int .i64 a1_5] 29 ?_; intro gb323 hg w47 hbox hb; have BK323 := Aside0.mk (hbox); have GW323 := zge HB hg; have GE323 := GW323; have NB322_323 := zl BK322 hg; have NB323_322 := zg BK322 hg; replace BK322 := zb BK322 hb; replace HB := zB HB hb; clear hb hbox hg; have hnb48 := NB322_323.out; have hnc48 := NB323_322.out; obtain ⟨hcz49_0, hcz49_1, hcz49_2, hcz49_3, hcz49_4, hcz49_5, hfz49_0, hfz49_1, hfz49_2, hfz49_3, hfz49_4, hfz49_5⟩ := zs6 BK322; obtain ⟨hcz50_0, hcz50_1, hcz50_2, hcz50_3, hcz50_4, hcz50_5, hfz50_0, hfz50_1, hfz50_2, hfz50_3, hfz50_4, hfz50_5⟩ := zs6 BK323) | ((with_reducible refine gate_callee (f := 75) rfl ?_); refine zL (some 14) Try.func75 #[.agg #[.int .i64 a0_1, .int .i64 a0_2], .agg #[.int .i64 a1_1, .int .i64 a1_2]] ?_; (with_reducible refine (laws_eqBound.calls a0_1 a0_2 a1_1 a1_2 false _ A9.out).mono ?_); rintro e w51 ⟨rfl, hb⟩; refine ⟨_, rfl, ?_⟩; replace BK322 := zb BK322 hb; replace BK323 := zb BK323 hb; replace HB := zB HB hb; (try clear hb)))
   go_ret
   exact ⟨by first | rfl | (simp [errW_none, errW_some] <;> rfl) | (simp [*, errW_none, errW_some] <;> rfl), by repeat (first | (with_reducible first | exact HB.out | apply below_alloc | apply pw_below_drewN | apply below_drew1 | refine below_set ?_ GE322.out | refine below_set ?_ GE323.out) | exact HB.out)⟩

end Go.Proofs.Ytommdabkkgcgbaa.QFnExactRun
