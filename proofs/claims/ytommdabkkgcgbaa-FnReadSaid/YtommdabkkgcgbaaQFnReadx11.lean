-- Written by a program of this session (wip/tools/turnprint.py over the kit's print), for this claim: functions as plain Lean and their contracts.
import Derived.Test.YtommdabkkgcgbaaQFnReadx0
import Derived.Test.YtommdabkkgcgbaaQFnReadx8
import Derived.Test.YtommdabkkgcgbaaQFnReadx9
import Derived.Test.YtommdabkkgcgbaaQFnReadx10
namespace Go.Proofs.Ytommdabkkgcgbaa.QFnRead
open Go.RowKit Go.Proofs.YtommdabkkgcgbaaW.PrintWords Go.Proofs.YtommdabkkgcgbaaW.PrintLast Go.Proofs.YtommdabkkgcgbaaW.PrintMore
attribute [local go_sem] max2_int min2_int max_two min_two max_three min_three max_four min_four   -- for this text's walks alone
set_option linter.unusedVariables false
set_option linter.unusedSimpArgs false

/-! ### spec_Do: function 17 -/
mutual
def spec_Do.j0 : Nat → List (S37) → Bool → Int → Int → Int → Int → Int → Bool → Int → Int → Int → Int → Int → Int → Int → Option (Bool × Int × Int × Int × Int × Int)
 | 0, _, _, _, _, _, _, _, _, _, _, _, _, _, _, _ => none
 | k + 1, x1, x26, x315000, x315001, x315002, x315003, x315004, x316000, x316001, x316002, x316003, x316004, x316005, x317000, x317001 => if x26 = true then (some (false, 0, 0, 0, 0, 0)) else (if x317000 = 1 then ((spec_l2least.f (wrap64 (x316003 + x317001)) 1000000000).bind fun t321 => (if x316000 = true then ((spec_Wheel.f k x315000 x315001 x315002 x315003 x315004 x316001 x316002 x317001).bind fun bt322 => (some (x316000, bt322.1, bt322.2, t321, x316004, x316005))) else (some (x316000, x316001, x316002, t321, x316004, x316005)))) else (if x317000 = 2 then (spec_Do.l0 k x1 (-1) x1 (x1.length : Int) 0 x315000 x315001 x315002 x315003 x315004 x316000 x316001 x316002 x316003 x316004 x316005 x317000 x317001) else (if x317000 = 4 then (some (false, 0, 0, 0, (-1), x316005)) else (some (x316000, x316001, x316002, x316003, x316004, x316005)))))
def spec_Do.l0 : Nat → List (S37) → Int → List (S37) → Int → Int → Int → Int → Int → Int → Int → Bool → Int → Int → Int → Int → Int → Int → Int → Option (Bool × Int × Int × Int × Int × Int)
 | 0, _, _, _, _, _, _, _, _, _, _, _, _, _, _, _, _, _, _ => none
 | k + 1, x1, x9, x50, x51, x52, x315000, x315001, x315002, x315003, x315004, x316000, x316001, x316002, x316003, x316004, x316005, x317000, x317001 => if x52 < x51 then (if 0 ≤ x52 then (if x52 < (x50.length : Int) then (if ((rd_T37 x50 x52).f0) = x317001 then (spec_Do.l0 k x1 x52 x50 x51 (wrap64 (x52 + 1)) x315000 x315001 x315002 x315003 x315004 x316000 x316001 x316002 x316003 x316004 x316005 x317000 x317001) else (spec_Do.l0 k x1 x9 x50 x51 (wrap64 (x52 + 1)) x315000 x315001 x315002 x315003 x315004 x316000 x316001 x316002 x316003 x316004 x316005 x317000 x317001)) else (none)) else (none)) else (if x9 < 0 then ((spec_l2least.f (wrap64 (x316005 + 1)) 1000000000).bind fun t326 => (some (x316000, x316001, x316002, x316003, x316004, t326))) else (if 0 ≤ x9 then (if x9 < (x1.length : Int) then (if x316000 = true then ((spec_l1clip.f k (wrap64 (((rd_T37 x1 x9).f1) - x315002)) (wrap64 (((rd_T37 x1 x9).f1) + x315002))).bind fun bt330 => ((spec_Meets.f x316001 x316002 bt330.1 bt330.2).bind fun t332 => (if t332 = true then ((spec_Read.f k x315000 x315001 x315002 x315003 x315004 x316001 x316002 ((rd_T37 x1 x9).f1)).bind fun bt334 => (some (true, bt334.1, bt334.2, 0, x9, x316005))) else ((spec_l2least.f (wrap64 (x316005 + 1)) 1000000000).bind fun t336 => ((spec_Read.f k x315000 x315001 x315002 x315003 x315004 x316001 x316002 ((rd_T37 x1 x9).f1)).bind fun bt338 => (some (true, bt338.1, bt338.2, 0, x9, t336))))))) else ((spec_l1clip.f k (wrap64 (((rd_T37 x1 x9).f1) - x315002)) (wrap64 (((rd_T37 x1 x9).f1) + x315002))).bind fun bt340 => (some (true, bt340.1, bt340.2, 0, x9, x316005)))) else (none)) else (none)))
end
def spec_Do.f (k : Nat) (a0_0 : Int) (a0_1 : Int) (a0_2 : Int) (a0_3 : Int) (a0_4 : Int) (l1 : List (S37)) (a2_0 : Bool) (a2_1 : Int) (a2_2 : Int) (a2_3 : Int) (a2_4 : Int) (a2_5 : Int) (a3_0 : Int) (a3_1 : Int) : Option (Bool × Int × Int × Int × Int × Int) := (spec_RulesOk.f a0_0 a0_1 a0_2 a0_3 a0_4).bind fun t318 => (if t318 = true then ((spec_StateOk.f k l1 a2_0 a2_1 a2_2 a2_3 a2_4 a2_5).bind fun t319 => (if t319 = true then ((spec_EventOk.f a3_0 a3_1).bind fun t320 => (spec_Do.j0 k l1 (!t320) a0_0 a0_1 a0_2 a0_3 a0_4 a2_0 a2_1 a2_2 a2_3 a2_4 a2_5 a3_0 a3_1)) else (spec_Do.j0 k l1 true a0_0 a0_1 a0_2 a0_3 a0_4 a2_0 a2_1 a2_2 a2_3 a2_4 a2_5 a3_0 a3_1))) else (spec_Do.j0 k l1 true a0_0 a0_1 a0_2 a0_3 a0_4 a2_0 a2_1 a2_2 a2_3 a2_4 a2_5 a3_0 a3_1))
theorem spec_Do.mono_l : ∀ k, (∀ y0 y1 y2 y3 y4 y5 y6 y7 y8 y9 y10 y11 y12 y13 y14, LeO (spec_Do.j0 k y0 y1 y2 y3 y4 y5 y6 y7 y8 y9 y10 y11 y12 y13 y14) (spec_Do.j0 (k + 1) y0 y1 y2 y3 y4 y5 y6 y7 y8 y9 y10 y11 y12 y13 y14)) ∧ (∀ y0 y1 y2 y3 y4 y5 y6 y7 y8 y9 y10 y11 y12 y13 y14 y15 y16 y17, LeO (spec_Do.l0 k y0 y1 y2 y3 y4 y5 y6 y7 y8 y9 y10 y11 y12 y13 y14 y15 y16 y17) (spec_Do.l0 (k + 1) y0 y1 y2 y3 y4 y5 y6 y7 y8 y9 y10 y11 y12 y13 y14 y15 y16 y17))
 | 0 => ⟨fun _ _ _ _ _ _ _ _ _ _ _ _ _ _ _ r h => by simp [spec_Do.j0] at h, fun _ _ _ _ _ _ _ _ _ _ _ _ _ _ _ _ _ _ r h => by simp [spec_Do.l0] at h⟩
 | k + 1 => by
  obtain ⟨ih0, ih1⟩ := spec_Do.mono_l k
  refine ⟨?_, ?_⟩
  ·intro y0 y1 y2 y3 y4 y5 y6 y7 y8 y9 y10 y11 y12 y13 y14
   unfold spec_Do.j0
   repeat' first
   | (with_reducible exact ih0 _ _ _ _ _ _ _ _ _ _ _ _ _ _ _)
   | (with_reducible exact ih1 _ _ _ _ _ _ _ _ _ _ _ _ _ _ _ _ _ _)
   | (with_reducible exact spec_Read.mono _ _ _ _ _ _ _ _ _)
   | (with_reducible exact spec_StateOk.mono _ _ _ _ _ _ _ _)
   | (with_reducible exact spec_Wheel.mono _ _ _ _ _ _ _ _ _)
   | (with_reducible exact spec_l1clip.mono _ _ _)
   | (with_reducible exact LeO.refl _)
   | (with_reducible exact LeO.none _)
   | (with_reducible refine LeO.ite ?_ ?_)
   | (with_reducible refine LeO.bind ?_ (fun _ => ?_))
   | exact ih0 _ _ _ _ _ _ _ _ _ _ _ _ _ _ _
   | exact ih1 _ _ _ _ _ _ _ _ _ _ _ _ _ _ _ _ _ _
   | exact spec_Read.mono _ _ _ _ _ _ _ _ _
   | exact spec_StateOk.mono _ _ _ _ _ _ _ _
   | exact spec_Wheel.mono _ _ _ _ _ _ _ _ _
   | exact spec_l1clip.mono _ _ _
   | exact LeO.none _
   | refine LeO.ite ?_ ?_
   | refine LeO.bind ?_ (fun _ => ?_)
  ·intro y0 y1 y2 y3 y4 y5 y6 y7 y8 y9 y10 y11 y12 y13 y14 y15 y16 y17
   unfold spec_Do.l0
   repeat' first
   | (with_reducible exact ih0 _ _ _ _ _ _ _ _ _ _ _ _ _ _ _)
   | (with_reducible exact ih1 _ _ _ _ _ _ _ _ _ _ _ _ _ _ _ _ _ _)
   | (with_reducible exact spec_Read.mono _ _ _ _ _ _ _ _ _)
   | (with_reducible exact spec_StateOk.mono _ _ _ _ _ _ _ _)
   | (with_reducible exact spec_Wheel.mono _ _ _ _ _ _ _ _ _)
   | (with_reducible exact spec_l1clip.mono _ _ _)
   | (with_reducible exact LeO.refl _)
   | (with_reducible exact LeO.none _)
   | (with_reducible refine LeO.ite ?_ ?_)
   | (with_reducible refine LeO.bind ?_ (fun _ => ?_))
   | exact ih0 _ _ _ _ _ _ _ _ _ _ _ _ _ _ _
   | exact ih1 _ _ _ _ _ _ _ _ _ _ _ _ _ _ _ _ _ _
   | exact spec_Read.mono _ _ _ _ _ _ _ _ _
   | exact spec_StateOk.mono _ _ _ _ _ _ _ _
   | exact spec_Wheel.mono _ _ _ _ _ _ _ _ _
   | exact spec_l1clip.mono _ _ _
   | exact LeO.none _
   | refine LeO.ite ?_ ?_
   | refine LeO.bind ?_ (fun _ => ?_)
theorem spec_Do.mono : ∀ a0 a1 a2 a3 a4 a5 a6 a7 a8 a9 a10 a11 a12 a13 k, LeO (spec_Do.f k a0 a1 a2 a3 a4 a5 a6 a7 a8 a9 a10 a11 a12 a13) (spec_Do.f (k + 1) a0 a1 a2 a3 a4 a5 a6 a7 a8 a9 a10 a11 a12 a13) := by
 intro a0 a1 a2 a3 a4 a5 a6 a7 a8 a9 a10 a11 a12 a13 k
 obtain ⟨ih0, ih1⟩ := spec_Do.mono_l k
 unfold spec_Do.f
 repeat' first
   | (with_reducible exact ih0 _ _ _ _ _ _ _ _ _ _ _ _ _ _ _)
   | (with_reducible exact ih1 _ _ _ _ _ _ _ _ _ _ _ _ _ _ _ _ _ _)
   | (with_reducible exact spec_Read.mono _ _ _ _ _ _ _ _ _)
   | (with_reducible exact spec_StateOk.mono _ _ _ _ _ _ _ _)
   | (with_reducible exact spec_Wheel.mono _ _ _ _ _ _ _ _ _)
   | (with_reducible exact spec_l1clip.mono _ _ _)
   | (with_reducible exact LeO.refl _)
   | (with_reducible exact LeO.none _)
   | (with_reducible refine LeO.ite ?_ ?_)
   | (with_reducible refine LeO.bind ?_ (fun _ => ?_))
   | exact ih0 _ _ _ _ _ _ _ _ _ _ _ _ _ _ _
   | exact ih1 _ _ _ _ _ _ _ _ _ _ _ _ _ _ _ _ _ _
   | exact spec_Read.mono _ _ _ _ _ _ _ _ _
   | exact spec_StateOk.mono _ _ _ _ _ _ _ _
   | exact spec_Wheel.mono _ _ _ _ _ _ _ _ _
   | exact spec_l1clip.mono _ _ _
   | exact LeO.none _
   | refine LeO.ite ?_ ?_
   | refine LeO.bind ?_ (fun _ => ?_)
def spec_Do.T19 : Bool × List (List Nat × List Nat) := (true, [([], []), ([], []), ([0, 1], [0, 1]), ([2], [2]), ([3], [3]), ([], []), ([5], [5]), ([4, 6], [4, 6]), ([], []), ([], []), ([8, 9], [8, 9]), ([10], [10]), ([11], [11]), ([], []), ([13], [13]), ([12, 14], [12, 14]), ([7, 15], [7, 15]), ([], []), ([17, 16, 0, 1, 2, 3, 4, 5, 6, 7, 8, 9, 10, 11, 12, 13, 14, 15, 16, 17], [16, 17])])
def spec_Do.B19 : List Nat := [0, 0, 3, 7, 15, 0, 32, 127, 0, 0, 768, 1792, 3840, 0, 8192, 32512, 65535, 0, 262143]
theorem spec_Do.tab19 : rtab .any (opsOf Try.f17 19) = spec_Do.T19 := by kernel_rfl
theorem spec_Do.bits19 : waitsOk spec_Do.T19.2 spec_Do.B19 = true := by kernel_rfl
def spec_Do.T24 : Bool × List (List Nat × List Nat) := (true, [([], []), ([], []), ([1], [1]), ([], []), ([], []), ([3, 4], [3, 4]), ([5], [5]), ([6], [6]), ([0, 2, 7], [0, 2, 7]), ([0, 1, 2, 3, 4, 5, 6, 7, 8], []), ([9, 8, 8, 0, 1, 2, 3, 4, 5, 6, 7, 8], [8, 9])])
def spec_Do.B24 : List Nat := [0, 0, 2, 0, 0, 24, 56, 120, 255, 511, 1023]
theorem spec_Do.tab24 : rtab .any (opsOf Try.f17 24) = spec_Do.T24 := by kernel_rfl
theorem spec_Do.bits24 : waitsOk spec_Do.T24.2 spec_Do.B24 = true := by kernel_rfl
set_option maxHeartbeats 8000000 in
set_option maxRecDepth 100000 in
theorem spec_Do.calls (k : Nat) (a0_0 : Int) (a0_1 : Int) (a0_2 : Int) (a0_3 : Int) (a0_4 : Int) (A1 : Option Addr) (c1 : Nat) (l1 : List (S37)) (a2_0 : Bool) (a2_1 : Int) (a2_2 : Int) (a2_3 : Int) (a2_4 : Int) (a2_5 : Int) (a3_0 : Int) (a3_1 : Int) (r1 : Bool) (r2 : Int) (r3 : Int) (r4 : Int) (r5 : Int) (r6 : Int) (w : World) (hr1 : Kd.C k37 w A1 l1.length l1) (hc1 : l1.length ≤ c1) (h : spec_Do.f k a0_0 a0_1 a0_2 a0_3 a0_4 l1 a2_0 a2_1 a2_2 a2_3 a2_4 a2_5 a3_0 a3_1 = some (r1, r2, r3, r4, r5, r6)) :
  Calls Try.prog 17 #[.agg #[.int .i64 a0_0, .int .i64 a0_1, .int .i64 a0_2, .int .i64 a0_3, .int .i64 a0_4], .slice A1 l1.length c1, .agg #[.bool a2_0, .int .i64 a2_1, .int .i64 a2_2, .int .i64 a2_3, .int .i64 a2_4, .int .i64 a2_5], .agg #[.int .i64 a3_0, .int .i64 a3_1]] w fun e w' => e = .returned (.agg #[.bool r1, .int .i64 r2, .int .i64 r3, .int .i64 r4, .int .i64 r5, .int .i64 r6]) ∧ Below w.heap.size w w' := by
 have hu24 := Try.underlying24
 have hu29 := Try.underlying29
 have hu34 := Try.underlying34
 have hu27 := Try.underlying27
 have hu37 := Try.underlying37
 have HR1 := Aside0.mk hr1
 have HC1 := Aside0.mk hc1
 clear hr1 hc1
 have HB := Aside0.mk (Below.refl w.heap.size w)
 have H : ((spec_RulesOk.f a0_0 a0_1 a0_2 a0_3 a0_4).bind fun t318 => (if t318 = true then ((spec_StateOk.f k l1 a2_0 a2_1 a2_2 a2_3 a2_4 a2_5).bind fun t319 => (if t319 = true then ((spec_EventOk.f a3_0 a3_1).bind fun t320 => (spec_Do.j0 k l1 (!t320) a0_0 a0_1 a0_2 a0_3 a0_4 a2_0 a2_1 a2_2 a2_3 a2_4 a2_5 a3_0 a3_1)) else (spec_Do.j0 k l1 true a0_0 a0_1 a0_2 a0_3 a0_4 a2_0 a2_1 a2_2 a2_3 a2_4 a2_5 a3_0 a3_1))) else (spec_Do.j0 k l1 true a0_0 a0_1 a0_2 a0_3 a0_4 a2_0 a2_1 a2_2 a2_3 a2_4 a2_5 a3_0 a3_1))) = some (r1, r2, r3, r4, r5, r6) := h
 clear h
 have HC5 := Aside0.mk H
 clear H
 go_enter Try.func17, Try.ntmps17
 go_upto_region 1 with (first | ((with_reducible refine gate_dst (N := 4) rfl ?_); refine zx 4 #[.int .i64 a0_0, .int .i64 a0_1, .int .i64 a0_2, .int .i64 a0_3, .int .i64 a0_4] 24 ?_; intro gb314 hg w6 hbox hb; have BK314 := Aside0.mk (hbox); have GW314 := zge HB hg; have GE314 := GW314; replace HB := zB HB hb; clear hb hbox hg) | ((with_reducible refine gate_dst (N := 6) rfl ?_); refine zx 6 #[.bool a2_0, .int .i64 a2_1, .int .i64 a2_2, .int .i64 a2_3, .int .i64 a2_4, .int .i64 a2_5] 29 ?_; intro gb315 hg w7 hbox hb; have BK315 := Aside0.mk (hbox); have GW315 := zge HB hg; have GE315 := GW315; have NB314_315 := zl BK314 hg; have NB315_314 := zg BK314 hg; replace BK314 := zb BK314 hb; replace HB := zB HB hb; clear hb hbox hg) | ((with_reducible refine gate_dst (N := 7) rfl ?_); refine zx 7 #[.int .i64 a3_0, .int .i64 a3_1] 34 ?_; intro gb316 hg w8 hbox hb; have BK316 := Aside0.mk (hbox); have GW316 := zge HB hg; have GE316 := GW316; have NB314_316 := zl BK314 hg; have NB316_314 := zg BK314 hg; have NB315_316 := zl BK315 hg; have NB316_315 := zg BK315 hg; replace BK314 := zb BK314 hb; replace BK315 := zb BK315 hb; replace HB := zB HB hb; clear hb hbox hg) | ((with_reducible refine gate_dst (N := 8) rfl ?_); refine zx 8 #[.bool false, .int .i64 0, .int .i64 0, .int .i64 0, .int .i64 0, .int .i64 0] 29 ?_; intro gb317 hg w9 hbox hb; have BK317 := Aside0.mk (hbox); have GW317 := zge HB hg; have GE317 := GW317; have NB314_317 := zl BK314 hg; have NB317_314 := zg BK314 hg; have NB315_317 := zl BK315 hg; have NB317_315 := zg BK315 hg; have NB316_317 := zl BK316 hg; have NB317_316 := zg BK316 hg; replace BK314 := zb BK314 hb; replace BK315 := zb BK315 hb; replace BK316 := zb BK316 hb; replace HB := zB HB hb; clear hb hbox hg))
 (try simp only [Act.put, List.setIfInBounds_toArray, List.set_cons_zero, List.set_cons_succ])
 go_cut [26] (fun v26 wc => ∃ (kq : Nat) (x26_4 : Bool), v26 = .bool x26_4 ∧ Aside0 (spec_Do.j0 kq l1 x26_4 a0_0 a0_1 a0_2 a0_3 a0_4 a2_0 a2_1 a2_2 a2_3 a2_4 a2_5 a3_0 a3_1 = some (r1, r2, r3, r4, r5, r6)) ∧ Aside0 (kq ≤ k) ∧ Aside0 (wc.heap[gb314]? = some (.cells #[.int .i64 a0_0, .int .i64 a0_1, .int .i64 a0_2, .int .i64 a0_3, .int .i64 a0_4] 24 (0, 0))) ∧ Aside0 (wc.heap[gb315]? = some (.cells #[.bool a2_0, .int .i64 a2_1, .int .i64 a2_2, .int .i64 a2_3, .int .i64 a2_4, .int .i64 a2_5] 29 (0, 0))) ∧ Aside0 (wc.heap[gb316]? = some (.cells #[.int .i64 a3_0, .int .i64 a3_1] 34 (0, 0))) ∧ Aside0 (wc.heap[gb317]? = some (.cells #[.bool false, .int .i64 0, .int .i64 0, .int .i64 0, .int .i64 0, .int .i64 0] 29 (0, 0))) ∧ Aside0 (Below w.heap.size w wc))
 case first =>
  have H := HC5.out
  clear HC5
  replace H := Option.bind_eq_some_iff.mp H
  obtain ⟨t318, A100, H⟩ := H
  replace H : (if t318 = true then ((spec_StateOk.f k l1 a2_0 a2_1 a2_2 a2_3 a2_4 a2_5).bind fun t319 => (if t319 = true then ((spec_EventOk.f a3_0 a3_1).bind fun t320 => (spec_Do.j0 k l1 (!t320) a0_0 a0_1 a0_2 a0_3 a0_4 a2_0 a2_1 a2_2 a2_3 a2_4 a2_5 a3_0 a3_1)) else (spec_Do.j0 k l1 true a0_0 a0_1 a0_2 a0_3 a0_4 a2_0 a2_1 a2_2 a2_3 a2_4 a2_5 a3_0 a3_1))) else (spec_Do.j0 k l1 true a0_0 a0_1 a0_2 a0_3 a0_4 a2_0 a2_1 a2_2 a2_3 a2_4 a2_5 a3_0 a3_1)) = some (r1, r2, r3, r4, r5, r6) := H
  have A10 := Aside0.mk A100
  clear A100
  by_cases c11 : t318 = true
  ·subst c11
   have H1 : ((spec_StateOk.f k l1 a2_0 a2_1 a2_2 a2_3 a2_4 a2_5).bind fun t319 => (if t319 = true then ((spec_EventOk.f a3_0 a3_1).bind fun t320 => (spec_Do.j0 k l1 (!t320) a0_0 a0_1 a0_2 a0_3 a0_4 a2_0 a2_1 a2_2 a2_3 a2_4 a2_5 a3_0 a3_1)) else (spec_Do.j0 k l1 true a0_0 a0_1 a0_2 a0_3 a0_4 a2_0 a2_1 a2_2 a2_3 a2_4 a2_5 a3_0 a3_1))) = some (r1, r2, r3, r4, r5, r6) := by rw [if_pos rfl] at H; exact H
   clear H
   have H := H1
   clear H1
   replace H := Option.bind_eq_some_iff.mp H
   obtain ⟨t319, A120, H⟩ := H
   replace H : (if t319 = true then ((spec_EventOk.f a3_0 a3_1).bind fun t320 => (spec_Do.j0 k l1 (!t320) a0_0 a0_1 a0_2 a0_3 a0_4 a2_0 a2_1 a2_2 a2_3 a2_4 a2_5 a3_0 a3_1)) else (spec_Do.j0 k l1 true a0_0 a0_1 a0_2 a0_3 a0_4 a2_0 a2_1 a2_2 a2_3 a2_4 a2_5 a3_0 a3_1)) = some (r1, r2, r3, r4, r5, r6) := H
   have A12 := Aside0.mk A120
   clear A120
   by_cases c13 : t319 = true
   ·subst c13
    have H1 : ((spec_EventOk.f a3_0 a3_1).bind fun t320 => (spec_Do.j0 k l1 (!t320) a0_0 a0_1 a0_2 a0_3 a0_4 a2_0 a2_1 a2_2 a2_3 a2_4 a2_5 a3_0 a3_1)) = some (r1, r2, r3, r4, r5, r6) := by rw [if_pos rfl] at H; exact H
    clear H
    have H := H1
    clear H1
    replace H := Option.bind_eq_some_iff.mp H
    obtain ⟨t320, A140, H⟩ := H
    replace H : (spec_Do.j0 k l1 (!t320) a0_0 a0_1 a0_2 a0_3 a0_4 a2_0 a2_1 a2_2 a2_3 a2_4 a2_5 a3_0 a3_1) = some (r1, r2, r3, r4, r5, r6) := H
    have A14 := Aside0.mk A140
    clear A140
    have H' := Aside0.mk H
    clear H
    have hnb15 := NB314_315.out
    have hnc15 := NB315_314.out
    have hnb16 := NB314_316.out
    have hnc16 := NB316_314.out
    have hnb17 := NB314_317.out
    have hnc17 := NB317_314.out
    obtain ⟨hcz18_0, hcz18_1, hcz18_2, hcz18_3, hcz18_4, hfz18_0, hfz18_1, hfz18_2, hfz18_3, hfz18_4⟩ := zs5 BK314
    go_wp2_with (first | ((with_reducible refine gate_callee (f := 67) rfl ?_); refine zL (some 14) Try.func67 #[.agg #[.int .i64 a0_0, .int .i64 a0_1, .int .i64 a0_2, .int .i64 a0_3, .int .i64 a0_4]] ?_; (with_reducible refine (spec_RulesOk.calls a0_0 a0_1 a0_2 a0_3 a0_4 true _ A10.out).mono ?_); rintro e w19 ⟨rfl, hb⟩; refine ⟨_, rfl, ?_⟩; replace BK314 := zb BK314 hb; replace BK315 := zb BK315 hb; replace BK316 := zb BK316 hb; replace BK317 := zb BK317 hb; replace HB := zB HB hb; (try clear hb); have hnb20 := NB315_316.out; have hnc20 := NB316_315.out; have hnb21 := NB315_317.out; have hnc21 := NB317_315.out; obtain ⟨hcz22_0, hcz22_1, hcz22_2, hcz22_3, hcz22_4, hcz22_5, hfz22_0, hfz22_1, hfz22_2, hfz22_3, hfz22_4, hfz22_5⟩ := zs6 BK315) | (go_at_call 40; (with_reducible refine (spec_StateOk.calls k _ _ l1 a2_0 a2_1 a2_2 a2_3 a2_4 a2_5 true _ ?side1 ?side2 A12.out).mono ?_); (case side1 => repeat (first | exact (Kd.C_below HR1.out HB.out) | (with_reducible refine Kd.C_alloc ?_ _) | (with_reducible refine Kd.C_drewN ?_ _) | (with_reducible refine Kd.C_drew ?_))); (case side2 => exact HC1.out); rintro e w23 ⟨rfl, hb⟩; replace BK314 := zb BK314 hb; replace BK315 := zb BK315 hb; replace BK316 := zb BK316 hb; replace BK317 := zb BK317 hb; replace HB := zB HB hb; (try clear hb); have hnb24 := NB316_317.out; have hnc24 := NB317_316.out; obtain ⟨hcz25_0, hcz25_1, hfz25_0, hfz25_1⟩ := zs2 BK316) | (go_at_call 68; (with_reducible refine (spec_EventOk.calls a3_0 a3_1 t320 _ A14.out).mono ?_); rintro e w26 ⟨rfl, hb⟩; replace BK314 := zb BK314 hb; replace BK315 := zb BK315 hb; replace BK316 := zb BK316 hb; replace BK317 := zb BK317 hb; replace HB := zB HB hb; (try clear hb)))
    go_meet
    case rel => exact ⟨_, (!t320), ze, H', ⟨by first | omega | exact Nat.le_refl _⟩, ⟨zy BK314⟩, ⟨zy BK315⟩, ⟨zy BK316⟩, ⟨zy BK317⟩, ⟨by repeat (first | (with_reducible first | exact HB.out | apply below_alloc | apply pw_below_drewN | apply below_drew1 | refine below_set ?_ GE314.out | refine below_set ?_ GE315.out | refine below_set ?_ GE316.out | refine below_set ?_ GE317.out) | exact HB.out)⟩⟩
   ·replace c13 := Bool.eq_false_iff.mpr c13
    subst c13
    have H1 : (spec_Do.j0 k l1 true a0_0 a0_1 a0_2 a0_3 a0_4 a2_0 a2_1 a2_2 a2_3 a2_4 a2_5 a3_0 a3_1) = some (r1, r2, r3, r4, r5, r6) := by rw [if_neg (show ¬ (false = true) by decide)] at H; exact H
    clear H
    have H := H1
    clear H1
    have H' := Aside0.mk H
    clear H
    have hnb27 := NB314_315.out
    have hnc27 := NB315_314.out
    have hnb28 := NB314_316.out
    have hnc28 := NB316_314.out
    have hnb29 := NB314_317.out
    have hnc29 := NB317_314.out
    obtain ⟨hcz30_0, hcz30_1, hcz30_2, hcz30_3, hcz30_4, hfz30_0, hfz30_1, hfz30_2, hfz30_3, hfz30_4⟩ := zs5 BK314
    go_wp2_with (first | ((with_reducible refine gate_callee (f := 67) rfl ?_); refine zL (some 14) Try.func67 #[.agg #[.int .i64 a0_0, .int .i64 a0_1, .int .i64 a0_2, .int .i64 a0_3, .int .i64 a0_4]] ?_; (with_reducible refine (spec_RulesOk.calls a0_0 a0_1 a0_2 a0_3 a0_4 true _ A10.out).mono ?_); rintro e w31 ⟨rfl, hb⟩; refine ⟨_, rfl, ?_⟩; replace BK314 := zb BK314 hb; replace BK315 := zb BK315 hb; replace BK316 := zb BK316 hb; replace BK317 := zb BK317 hb; replace HB := zB HB hb; (try clear hb); have hnb32 := NB315_316.out; have hnc32 := NB316_315.out; have hnb33 := NB315_317.out; have hnc33 := NB317_315.out; obtain ⟨hcz34_0, hcz34_1, hcz34_2, hcz34_3, hcz34_4, hcz34_5, hfz34_0, hfz34_1, hfz34_2, hfz34_3, hfz34_4, hfz34_5⟩ := zs6 BK315) | (go_at_call 40; (with_reducible refine (spec_StateOk.calls k _ _ l1 a2_0 a2_1 a2_2 a2_3 a2_4 a2_5 false _ ?side1 ?side2 A12.out).mono ?_); (case side1 => repeat (first | exact (Kd.C_below HR1.out HB.out) | (with_reducible refine Kd.C_alloc ?_ _) | (with_reducible refine Kd.C_drewN ?_ _) | (with_reducible refine Kd.C_drew ?_))); (case side2 => exact HC1.out); rintro e w35 ⟨rfl, hb⟩; replace BK314 := zb BK314 hb; replace BK315 := zb BK315 hb; replace BK316 := zb BK316 hb; replace BK317 := zb BK317 hb; replace HB := zB HB hb; (try clear hb)))
    go_meet
    case rel => exact ⟨_, (true), ze, H', ⟨by first | omega | exact Nat.le_refl _⟩, ⟨zy BK314⟩, ⟨zy BK315⟩, ⟨zy BK316⟩, ⟨zy BK317⟩, ⟨by repeat (first | (with_reducible first | exact HB.out | apply below_alloc | apply pw_below_drewN | apply below_drew1 | refine below_set ?_ GE314.out | refine below_set ?_ GE315.out | refine below_set ?_ GE316.out | refine below_set ?_ GE317.out) | exact HB.out)⟩⟩
  ·replace c11 := Bool.eq_false_iff.mpr c11
   subst c11
   have H1 : (spec_Do.j0 k l1 true a0_0 a0_1 a0_2 a0_3 a0_4 a2_0 a2_1 a2_2 a2_3 a2_4 a2_5 a3_0 a3_1) = some (r1, r2, r3, r4, r5, r6) := by rw [if_neg (show ¬ (false = true) by decide)] at H; exact H
   clear H
   have H := H1
   clear H1
   have H' := Aside0.mk H
   clear H
   have hnb36 := NB314_315.out
   have hnc36 := NB315_314.out
   have hnb37 := NB314_316.out
   have hnc37 := NB316_314.out
   have hnb38 := NB314_317.out
   have hnc38 := NB317_314.out
   obtain ⟨hcz39_0, hcz39_1, hcz39_2, hcz39_3, hcz39_4, hfz39_0, hfz39_1, hfz39_2, hfz39_3, hfz39_4⟩ := zs5 BK314
   go_wp2_with (first | ((with_reducible refine gate_callee (f := 67) rfl ?_); refine zL (some 14) Try.func67 #[.agg #[.int .i64 a0_0, .int .i64 a0_1, .int .i64 a0_2, .int .i64 a0_3, .int .i64 a0_4]] ?_; (with_reducible refine (spec_RulesOk.calls a0_0 a0_1 a0_2 a0_3 a0_4 false _ A10.out).mono ?_); rintro e w40 ⟨rfl, hb⟩; refine ⟨_, rfl, ?_⟩; replace BK314 := zb BK314 hb; replace BK315 := zb BK315 hb; replace BK316 := zb BK316 hb; replace BK317 := zb BK317 hb; replace HB := zB HB hb; (try clear hb)))
   go_meet
   case rel => exact ⟨_, (true), ze, H', ⟨by first | omega | exact Nat.le_refl _⟩, ⟨zy BK314⟩, ⟨zy BK315⟩, ⟨zy BK316⟩, ⟨zy BK317⟩, ⟨by repeat (first | (with_reducible first | exact HB.out | apply below_alloc | apply pw_below_drewN | apply below_drew1 | refine below_set ?_ GE314.out | refine below_set ?_ GE315.out | refine below_set ?_ GE316.out | refine below_set ?_ GE317.out) | exact HB.out)⟩⟩
 case rest =>
  clear HC5
  (try clear c1); (try clear c2); (try clear p2); (try clear c3); (try clear c6); (try clear c11); (try clear c13); (try clear c15); (try clear c16); (try clear c17); (try clear c20); (try clear c21); (try clear c24); (try clear c27); (try clear c28); (try clear c29); (try clear c32); (try clear c33); (try clear c36); (try clear c37); (try clear c38); (try clear hcz18_0); (try clear hcz18_1); (try clear hcz18_2); (try clear hcz18_3); (try clear hcz18_4); (try clear hcz22_0); (try clear hcz22_1); (try clear hcz22_2); (try clear hcz22_3); (try clear hcz22_4); (try clear hcz22_5); (try clear hcz25_0); (try clear hcz25_1); (try clear hcz30_0); (try clear hcz30_1); (try clear hcz30_2); (try clear hcz30_3); (try clear hcz30_4); (try clear hcz34_0); (try clear hcz34_1); (try clear hcz34_2); (try clear hcz34_3); (try clear hcz34_4); (try clear hcz34_5); (try clear hcz39_0); (try clear hcz39_1); (try clear hcz39_2); (try clear hcz39_3); (try clear hcz39_4); (try clear hfz18_0); (try clear hfz18_1); (try clear hfz18_2); (try clear hfz18_3); (try clear hfz18_4); (try clear hfz22_0); (try clear hfz22_1); (try clear hfz22_2); (try clear hfz22_3); (try clear hfz22_4); (try clear hfz22_5); (try clear hfz25_0); (try clear hfz25_1); (try clear hfz30_0); (try clear hfz30_1); (try clear hfz30_2); (try clear hfz30_3); (try clear hfz30_4); (try clear hfz34_0); (try clear hfz34_1); (try clear hfz34_2); (try clear hfz34_3); (try clear hfz34_4); (try clear hfz34_5); (try clear hfz39_0); (try clear hfz39_1); (try clear hfz39_2); (try clear hfz39_3); (try clear hfz39_4)
  obtain ⟨kq, x26_4, rfl, HA, HJ4, BK314, BK315, BK316, BK317, HB⟩ := hcut
  cases kq with
  | zero => exact absurd HA.out (by simp [spec_Do.j0])
  | succ kj4 =>
   have H := HA.out
   clear HA
   simp only [spec_Do.j0] at H
   by_cases c41 : x26_4 = true
   ·subst c41
    have H1 : (some (false, 0, 0, 0, 0, 0)) = some (r1, r2, r3, r4, r5, r6) := by rw [if_pos rfl] at H; exact H
    clear H
    have H := H1
    clear H1
    simp only [Option.some.injEq, Prod.mk.injEq] at H
    obtain ⟨rfl, rfl, rfl, rfl, rfl, rfl⟩ := H
    have hnb42 := NB317_314.out
    have hnc42 := NB314_317.out
    have hnb43 := NB317_315.out
    have hnc43 := NB315_317.out
    have hnb44 := NB317_316.out
    have hnc44 := NB316_317.out
    obtain ⟨hcz45_0, hcz45_1, hcz45_2, hcz45_3, hcz45_4, hcz45_5, hfz45_0, hfz45_1, hfz45_2, hfz45_3, hfz45_4, hfz45_5⟩ := zs6 BK317
    go_wp2
    refine bodyPost_ret (results_cell_row rfl _ _ gb317 29 #[.bool false, .int .i64 0, .int .i64 0, .int .i64 0, .int .i64 0, .int .i64 0] (0, 0) _ rfl (by (with_reducible repeat (first | refine blk_drewN ?_ _ | refine blk_drew ?_ | refine blk_alloc ?_ _)); refine blk_put (cs := #[.bool false, .int .i64 0, .int .i64 0, .int .i64 0, .int .i64 0, .int .i64 0]) ?_ 5 _ rfl; (with_reducible repeat (first | refine blk_drewN ?_ _ | refine blk_drew ?_ | refine blk_alloc ?_ _)); refine blk_put (cs := #[.bool false, .int .i64 0, .int .i64 0, .int .i64 0, .int .i64 0, .int .i64 0]) ?_ 4 _ rfl; (with_reducible repeat (first | refine blk_drewN ?_ _ | refine blk_drew ?_ | refine blk_alloc ?_ _)); refine blk_put (cs := #[.bool false, .int .i64 0, .int .i64 0, .int .i64 0, .int .i64 0, .int .i64 0]) ?_ 3 _ rfl; (with_reducible repeat (first | refine blk_drewN ?_ _ | refine blk_drew ?_ | refine blk_alloc ?_ _)); refine blk_put (cs := #[.bool false, .int .i64 0, .int .i64 0, .int .i64 0, .int .i64 0, .int .i64 0]) ?_ 2 _ rfl; (with_reducible repeat (first | refine blk_drewN ?_ _ | refine blk_drew ?_ | refine blk_alloc ?_ _)); refine blk_put (cs := #[.bool false, .int .i64 0, .int .i64 0, .int .i64 0, .int .i64 0, .int .i64 0]) ?_ 1 _ rfl; (with_reducible repeat (first | refine blk_drewN ?_ _ | refine blk_drew ?_ | refine blk_alloc ?_ _)); refine blk_put (cs := #[.bool false, .int .i64 0, .int .i64 0, .int .i64 0, .int .i64 0, .int .i64 0]) ?_ 0 _ rfl; (with_reducible repeat (first | refine blk_drewN ?_ _ | refine blk_drew ?_ | refine blk_alloc ?_ _)); exact BK317.out) Try.underlying29 rfl (by kernel_rfl)) rfl ?_
    exact ⟨by first | rfl | (simp [errW_none, errW_some] <;> rfl) | (simp [*, errW_none, errW_some] <;> rfl), by repeat (first | (with_reducible first | exact HB.out | apply below_alloc | apply pw_below_drewN | apply below_drew1 | refine below_set ?_ GE314.out | refine below_set ?_ GE315.out | refine below_set ?_ GE316.out | refine below_set ?_ GE317.out) | exact HB.out)⟩
   ·replace c41 := Bool.eq_false_iff.mpr c41
    subst c41
    have H1 : (if a3_0 = 1 then ((spec_l2least.f (wrap64 (a2_3 + a3_1)) 1000000000).bind fun t321 => (if a2_0 = true then ((spec_Wheel.f kj4 a0_0 a0_1 a0_2 a0_3 a0_4 a2_1 a2_2 a3_1).bind fun bt322 => (some (a2_0, bt322.1, bt322.2, t321, a2_4, a2_5))) else (some (a2_0, a2_1, a2_2, t321, a2_4, a2_5)))) else (if a3_0 = 2 then (spec_Do.l0 kj4 l1 (-1) l1 (l1.length : Int) 0 a0_0 a0_1 a0_2 a0_3 a0_4 a2_0 a2_1 a2_2 a2_3 a2_4 a2_5 a3_0 a3_1) else (if a3_0 = 4 then (some (false, 0, 0, 0, (-1), a2_5)) else (some (a2_0, a2_1, a2_2, a2_3, a2_4, a2_5))))) = some (r1, r2, r3, r4, r5, r6) := by rw [if_neg (show ¬ (false = true) by decide)] at H; exact H
    clear H
    have H := H1
    clear H1
    by_cases c46 : a3_0 = 1
    ·rw [if_pos c46] at H
     have c46b0 : (a3_0 == 1) = true := beq_iff_eq.mpr c46
     have c46b1 : (a3_0 != 1) = false := bne_eq_false_iff_eq.mpr c46
     clear c46
     replace H := Option.bind_eq_some_iff.mp H
     obtain ⟨t321, A470, H⟩ := H
     replace H : (if a2_0 = true then ((spec_Wheel.f kj4 a0_0 a0_1 a0_2 a0_3 a0_4 a2_1 a2_2 a3_1).bind fun bt322 => (some (a2_0, bt322.1, bt322.2, t321, a2_4, a2_5))) else (some (a2_0, a2_1, a2_2, t321, a2_4, a2_5))) = some (r1, r2, r3, r4, r5, r6) := H
     have A47 := Aside0.mk A470
     clear A470
     by_cases c48 : a2_0 = true
     ·subst c48
      have H1 : ((spec_Wheel.f kj4 a0_0 a0_1 a0_2 a0_3 a0_4 a2_1 a2_2 a3_1).bind fun bt322 => (some (true, bt322.1, bt322.2, t321, a2_4, a2_5))) = some (r1, r2, r3, r4, r5, r6) := by rw [if_pos rfl] at H; exact H
      clear H
      have H := H1
      clear H1
      replace H := Option.bind_eq_some_iff.mp H
      obtain ⟨⟨t322, t323⟩, A490, H⟩ := H
      replace H : (some (true, t322, t323, t321, a2_4, a2_5)) = some (r1, r2, r3, r4, r5, r6) := H
      have A49 := Aside0.mk A490
      clear A490
      simp only [Option.some.injEq, Prod.mk.injEq] at H
      obtain ⟨rfl, rfl, rfl, rfl, rfl, rfl⟩ := H
      have hnb50 := NB316_314.out
      have hnc50 := NB314_316.out
      have hnb51 := NB316_315.out
      have hnc51 := NB315_316.out
      have hnb52 := NB316_317.out
      have hnc52 := NB317_316.out
      obtain ⟨hcz53_0, hcz53_1, hfz53_0, hfz53_1⟩ := zs2 BK316
      have hnb54 := NB315_314.out
      have hnc54 := NB314_315.out
      have hnb55 := NB315_317.out
      have hnc55 := NB317_315.out
      obtain ⟨hcz56_0, hcz56_1, hcz56_2, hcz56_3, hcz56_4, hcz56_5, hfz56_0, hfz56_1, hfz56_2, hfz56_3, hfz56_4, hfz56_5⟩ := zs6 BK315
      go_wp2_with (first | ((with_reducible refine gate_callee (f := 69) rfl ?_); refine zL (some 37) Try.func69 #[.int .i64 (wrap64 (a2_3 + a3_1)), .int .i64 1000000000] ?_; (with_reducible refine (spec_l2least.calls (wrap64 (a2_3 + a3_1)) 1000000000 t321 _ A47.out).mono ?_); rintro e w' ⟨rfl, ⟨nd, rfl⟩⟩; refine ⟨_, rfl, ?_⟩; (try (rw [drewN_self wc]; generalize hq_ : World.drewN wc _ = wc; have n0_ : Aside0 (wc.heap[gb314]? = some (.cells #[.int .i64 a0_0, .int .i64 a0_1, .int .i64 a0_2, .int .i64 a0_3, .int .i64 a0_4] 24 (0, 0))) := ⟨by rw [← hq_]; exact (zy BK314)⟩; have n1_ : Aside0 (wc.heap[gb315]? = some (.cells #[.bool true, .int .i64 a2_1, .int .i64 a2_2, .int .i64 a2_3, .int .i64 a2_4, .int .i64 a2_5] 29 (0, 0))) := ⟨by rw [← hq_]; exact (zy BK315)⟩; have n2_ : Aside0 (wc.heap[gb316]? = some (.cells #[.int .i64 a3_0, .int .i64 a3_1] 34 (0, 0))) := ⟨by rw [← hq_]; exact (zy BK316)⟩; have n3_ : Aside0 (wc.heap[gb317]? = some (.cells #[.bool false, .int .i64 0, .int .i64 0, .int .i64 0, .int .i64 0, .int .i64 0] 29 (0, 0))) := ⟨by rw [← hq_]; exact (zy BK317)⟩; have n4_ : Aside0 (Below w.heap.size w wc) := ⟨by rw [← hq_]; exact (by repeat (first | (with_reducible first | exact HB.out | apply below_alloc | apply pw_below_drewN | apply below_drew1 | refine below_set ?_ GE314.out | refine below_set ?_ GE315.out | refine below_set ?_ GE316.out | refine below_set ?_ GE317.out) | exact HB.out))⟩; clear BK314 BK315 BK316 BK317 HB hq_; have BK314 := n0_; have BK315 := n1_; have BK316 := n2_; have BK317 := n3_; have HB := n4_; clear n0_ n1_ n2_ n3_ n4_)); obtain ⟨hczm1_0, hczm1_1, hczm1_2, hczm1_3, hczm1_4, hczm1_5, hfzm1_0, hfzm1_1, hfzm1_2, hfzm1_3, hfzm1_4, hfzm1_5⟩ := zs6 BK315; obtain ⟨hczm2_0, hczm2_1, hfzm2_0, hfzm2_1⟩ := zs2 BK316; obtain ⟨hczm3_0, hczm3_1, hczm3_2, hczm3_3, hczm3_4, hczm3_5, hfzm3_0, hfzm3_1, hfzm3_2, hfzm3_3, hfzm3_4, hfzm3_5⟩ := zs6 BK317; have hnb57 := NB314_317.out; have hnc57 := NB317_314.out; obtain ⟨hcz58_0, hcz58_1, hcz58_2, hcz58_3, hcz58_4, hfz58_0, hfz58_1, hfz58_2, hfz58_3, hfz58_4⟩ := zs5 BK314) | ((with_reducible refine gate_callee (f := 70) rfl ?_); refine zL (some 46) Try.func70 #[.agg #[.int .i64 a0_0, .int .i64 a0_1, .int .i64 a0_2, .int .i64 a0_3, .int .i64 a0_4], .agg #[.int .i64 a2_1, .int .i64 a2_2], .int .i64 a3_1] ?_; (with_reducible refine (spec_Wheel.calls kj4 a0_0 a0_1 a0_2 a0_3 a0_4 a2_1 a2_2 a3_1 t322 t323 _ A49.out).mono ?_); rintro e w59 ⟨rfl, hb⟩; refine ⟨_, rfl, ?_⟩; have n0_ := Aside0.mk (blk_below (g := gb314) (o := .cells #[.int .i64 a0_0, .int .i64 a0_1, .int .i64 a0_2, .int .i64 a0_3, .int .i64 a0_4] 24 (0, 0)) (by (with_reducible repeat (first | refine blk_drewN ?_ _ | refine blk_drew ?_ | refine blk_alloc ?_ _)); refine blk_far ?_ NB314_315.out _; (with_reducible repeat (first | refine blk_drewN ?_ _ | refine blk_drew ?_ | refine blk_alloc ?_ _)); exact BK314.out) hb); have n1_ := Aside0.mk (blk_below (g := gb315) (o := .cells #[.bool true, .int .i64 a2_1, .int .i64 a2_2, .int .i64 t321, .int .i64 a2_4, .int .i64 a2_5] 29 (0, 0)) (by (with_reducible repeat (first | refine blk_drewN ?_ _ | refine blk_drew ?_ | refine blk_alloc ?_ _)); refine blk_put (cs := #[.bool true, .int .i64 a2_1, .int .i64 a2_2, .int .i64 a2_3, .int .i64 a2_4, .int .i64 a2_5]) ?_ 3 _ rfl; (with_reducible repeat (first | refine blk_drewN ?_ _ | refine blk_drew ?_ | refine blk_alloc ?_ _)); exact BK315.out) hb); have n2_ := Aside0.mk (blk_below (g := gb316) (o := .cells #[.int .i64 a3_0, .int .i64 a3_1] 34 (0, 0)) (by (with_reducible repeat (first | refine blk_drewN ?_ _ | refine blk_drew ?_ | refine blk_alloc ?_ _)); refine blk_far ?_ NB316_315.out _; (with_reducible repeat (first | refine blk_drewN ?_ _ | refine blk_drew ?_ | refine blk_alloc ?_ _)); exact BK316.out) hb); have n3_ := Aside0.mk (blk_below (g := gb317) (o := .cells #[.bool false, .int .i64 0, .int .i64 0, .int .i64 0, .int .i64 0, .int .i64 0] 29 (0, 0)) (by (with_reducible repeat (first | refine blk_drewN ?_ _ | refine blk_drew ?_ | refine blk_alloc ?_ _)); refine blk_far ?_ NB317_315.out _; (with_reducible repeat (first | refine blk_drewN ?_ _ | refine blk_drew ?_ | refine blk_alloc ?_ _)); exact BK317.out) hb); have n4_ := Aside0.mk (below_step (by repeat (first | (with_reducible first | exact HB.out | apply below_alloc | apply pw_below_drewN | apply below_drew1 | refine below_set ?_ GE314.out | refine below_set ?_ GE315.out | refine below_set ?_ GE316.out | refine below_set ?_ GE317.out) | exact HB.out)) hb); clear BK314 BK315 BK316 BK317 HB; have BK314 := n0_; have BK315 := n1_; have BK316 := n2_; have BK317 := n3_; have HB := n4_; clear n0_ n1_ n2_ n3_ n4_; (try clear hb); obtain ⟨hcz60_0, hcz60_1, hcz60_2, hcz60_3, hcz60_4, hcz60_5, hfz60_0, hfz60_1, hfz60_2, hfz60_3, hfz60_4, hfz60_5⟩ := zs6 BK315; obtain ⟨hcz61_0, hcz61_1, hcz61_2, hcz61_3, hcz61_4, hcz61_5, hfz61_0, hfz61_1, hfz61_2, hfz61_3, hfz61_4, hfz61_5⟩ := zs6 BK317))
      refine bodyPost_ret (results_cell_row rfl _ _ gb317 29 #[.bool true, .int .i64 t322, .int .i64 t323, .int .i64 t321, .int .i64 a2_4, .int .i64 a2_5] (0, 0) _ rfl (by (with_reducible repeat (first | refine blk_drewN ?_ _ | refine blk_drew ?_ | refine blk_alloc ?_ _)); refine blk_put (cs := #[.bool true, .int .i64 t322, .int .i64 t323, .int .i64 t321, .int .i64 a2_4, .int .i64 0]) ?_ 5 _ rfl; (with_reducible repeat (first | refine blk_drewN ?_ _ | refine blk_drew ?_ | refine blk_alloc ?_ _)); refine blk_put (cs := #[.bool true, .int .i64 t322, .int .i64 t323, .int .i64 t321, .int .i64 0, .int .i64 0]) ?_ 4 _ rfl; (with_reducible repeat (first | refine blk_drewN ?_ _ | refine blk_drew ?_ | refine blk_alloc ?_ _)); refine blk_put (cs := #[.bool true, .int .i64 t322, .int .i64 t323, .int .i64 0, .int .i64 0, .int .i64 0]) ?_ 3 _ rfl; (with_reducible repeat (first | refine blk_drewN ?_ _ | refine blk_drew ?_ | refine blk_alloc ?_ _)); refine blk_put (cs := #[.bool true, .int .i64 t322, .int .i64 0, .int .i64 0, .int .i64 0, .int .i64 0]) ?_ 2 _ rfl; (with_reducible repeat (first | refine blk_drewN ?_ _ | refine blk_drew ?_ | refine blk_alloc ?_ _)); refine blk_put (cs := #[.bool true, .int .i64 0, .int .i64 0, .int .i64 0, .int .i64 0, .int .i64 0]) ?_ 1 _ rfl; (with_reducible repeat (first | refine blk_drewN ?_ _ | refine blk_drew ?_ | refine blk_alloc ?_ _)); refine blk_put (cs := #[.bool false, .int .i64 0, .int .i64 0, .int .i64 0, .int .i64 0, .int .i64 0]) ?_ 0 _ rfl; (with_reducible repeat (first | refine blk_drewN ?_ _ | refine blk_drew ?_ | refine blk_alloc ?_ _)); refine blk_far ?_ NB317_315.out _; (with_reducible repeat (first | refine blk_drewN ?_ _ | refine blk_drew ?_ | refine blk_alloc ?_ _)); refine blk_far ?_ NB317_315.out _; (with_reducible repeat (first | refine blk_drewN ?_ _ | refine blk_drew ?_ | refine blk_alloc ?_ _)); exact BK317.out) Try.underlying29 rfl (by kernel_rfl)) rfl ?_
      exact ⟨by first | rfl | (simp [errW_none, errW_some] <;> rfl) | (simp [*, errW_none, errW_some] <;> rfl), by repeat (first | (with_reducible first | exact HB.out | apply below_alloc | apply pw_below_drewN | apply below_drew1 | refine below_set ?_ GE314.out | refine below_set ?_ GE315.out | refine below_set ?_ GE316.out | refine below_set ?_ GE317.out) | exact HB.out)⟩
     ·replace c48 := Bool.eq_false_iff.mpr c48
      subst c48
      have H1 : (some (false, a2_1, a2_2, t321, a2_4, a2_5)) = some (r1, r2, r3, r4, r5, r6) := by rw [if_neg (show ¬ (false = true) by decide)] at H; exact H
      clear H
      have H := H1
      clear H1
      simp only [Option.some.injEq, Prod.mk.injEq] at H
      obtain ⟨rfl, rfl, rfl, rfl, rfl, rfl⟩ := H
      have hnb62 := NB316_314.out
      have hnc62 := NB314_316.out
      have hnb63 := NB316_315.out
      have hnc63 := NB315_316.out
      have hnb64 := NB316_317.out
      have hnc64 := NB317_316.out
      obtain ⟨hcz65_0, hcz65_1, hfz65_0, hfz65_1⟩ := zs2 BK316
      have hnb66 := NB315_314.out
      have hnc66 := NB314_315.out
      have hnb67 := NB315_317.out
      have hnc67 := NB317_315.out
      obtain ⟨hcz68_0, hcz68_1, hcz68_2, hcz68_3, hcz68_4, hcz68_5, hfz68_0, hfz68_1, hfz68_2, hfz68_3, hfz68_4, hfz68_5⟩ := zs6 BK315
      go_wp2_with (first | ((with_reducible refine gate_callee (f := 69) rfl ?_); refine zL (some 37) Try.func69 #[.int .i64 (wrap64 (a2_3 + a3_1)), .int .i64 1000000000] ?_; (with_reducible refine (spec_l2least.calls (wrap64 (a2_3 + a3_1)) 1000000000 t321 _ A47.out).mono ?_); rintro e w' ⟨rfl, ⟨nd, rfl⟩⟩; refine ⟨_, rfl, ?_⟩; (try (rw [drewN_self wc]; generalize hq_ : World.drewN wc _ = wc; have n0_ : Aside0 (wc.heap[gb314]? = some (.cells #[.int .i64 a0_0, .int .i64 a0_1, .int .i64 a0_2, .int .i64 a0_3, .int .i64 a0_4] 24 (0, 0))) := ⟨by rw [← hq_]; exact (zy BK314)⟩; have n1_ : Aside0 (wc.heap[gb315]? = some (.cells #[.bool false, .int .i64 a2_1, .int .i64 a2_2, .int .i64 a2_3, .int .i64 a2_4, .int .i64 a2_5] 29 (0, 0))) := ⟨by rw [← hq_]; exact (zy BK315)⟩; have n2_ : Aside0 (wc.heap[gb316]? = some (.cells #[.int .i64 a3_0, .int .i64 a3_1] 34 (0, 0))) := ⟨by rw [← hq_]; exact (zy BK316)⟩; have n3_ : Aside0 (wc.heap[gb317]? = some (.cells #[.bool false, .int .i64 0, .int .i64 0, .int .i64 0, .int .i64 0, .int .i64 0] 29 (0, 0))) := ⟨by rw [← hq_]; exact (zy BK317)⟩; have n4_ : Aside0 (Below w.heap.size w wc) := ⟨by rw [← hq_]; exact (by repeat (first | (with_reducible first | exact HB.out | apply below_alloc | apply pw_below_drewN | apply below_drew1 | refine below_set ?_ GE314.out | refine below_set ?_ GE315.out | refine below_set ?_ GE316.out | refine below_set ?_ GE317.out) | exact HB.out))⟩; clear BK314 BK315 BK316 BK317 HB hq_; have BK314 := n0_; have BK315 := n1_; have BK316 := n2_; have BK317 := n3_; have HB := n4_; clear n0_ n1_ n2_ n3_ n4_)); obtain ⟨hczm4_0, hczm4_1, hczm4_2, hczm4_3, hczm4_4, hfzm4_0, hfzm4_1, hfzm4_2, hfzm4_3, hfzm4_4⟩ := zs5 BK314; obtain ⟨hczm5_0, hczm5_1, hczm5_2, hczm5_3, hczm5_4, hczm5_5, hfzm5_0, hfzm5_1, hfzm5_2, hfzm5_3, hfzm5_4, hfzm5_5⟩ := zs6 BK315; obtain ⟨hczm6_0, hczm6_1, hfzm6_0, hfzm6_1⟩ := zs2 BK316; have hnb69 := NB317_314.out; have hnc69 := NB314_317.out; obtain ⟨hcz70_0, hcz70_1, hcz70_2, hcz70_3, hcz70_4, hcz70_5, hfz70_0, hfz70_1, hfz70_2, hfz70_3, hfz70_4, hfz70_5⟩ := zs6 BK317))
      refine bodyPost_ret (results_cell_row rfl _ _ gb317 29 #[.bool false, .int .i64 a2_1, .int .i64 a2_2, .int .i64 t321, .int .i64 a2_4, .int .i64 a2_5] (0, 0) _ rfl (by (with_reducible repeat (first | refine blk_drewN ?_ _ | refine blk_drew ?_ | refine blk_alloc ?_ _)); refine blk_put (cs := #[.bool false, .int .i64 a2_1, .int .i64 a2_2, .int .i64 t321, .int .i64 a2_4, .int .i64 0]) ?_ 5 _ rfl; (with_reducible repeat (first | refine blk_drewN ?_ _ | refine blk_drew ?_ | refine blk_alloc ?_ _)); refine blk_put (cs := #[.bool false, .int .i64 a2_1, .int .i64 a2_2, .int .i64 t321, .int .i64 0, .int .i64 0]) ?_ 4 _ rfl; (with_reducible repeat (first | refine blk_drewN ?_ _ | refine blk_drew ?_ | refine blk_alloc ?_ _)); refine blk_put (cs := #[.bool false, .int .i64 a2_1, .int .i64 a2_2, .int .i64 0, .int .i64 0, .int .i64 0]) ?_ 3 _ rfl; (with_reducible repeat (first | refine blk_drewN ?_ _ | refine blk_drew ?_ | refine blk_alloc ?_ _)); refine blk_put (cs := #[.bool false, .int .i64 a2_1, .int .i64 0, .int .i64 0, .int .i64 0, .int .i64 0]) ?_ 2 _ rfl; (with_reducible repeat (first | refine blk_drewN ?_ _ | refine blk_drew ?_ | refine blk_alloc ?_ _)); refine blk_put (cs := #[.bool false, .int .i64 0, .int .i64 0, .int .i64 0, .int .i64 0, .int .i64 0]) ?_ 1 _ rfl; (with_reducible repeat (first | refine blk_drewN ?_ _ | refine blk_drew ?_ | refine blk_alloc ?_ _)); refine blk_put (cs := #[.bool false, .int .i64 0, .int .i64 0, .int .i64 0, .int .i64 0, .int .i64 0]) ?_ 0 _ rfl; (with_reducible repeat (first | refine blk_drewN ?_ _ | refine blk_drew ?_ | refine blk_alloc ?_ _)); refine blk_far ?_ NB317_315.out _; (with_reducible repeat (first | refine blk_drewN ?_ _ | refine blk_drew ?_ | refine blk_alloc ?_ _)); exact BK317.out) Try.underlying29 rfl (by kernel_rfl)) rfl ?_
      exact ⟨by first | rfl | (simp [errW_none, errW_some] <;> rfl) | (simp [*, errW_none, errW_some] <;> rfl), by repeat (first | (with_reducible first | exact HB.out | apply below_alloc | apply pw_below_drewN | apply below_drew1 | refine below_set ?_ GE314.out | refine below_set ?_ GE315.out | refine below_set ?_ GE316.out | refine below_set ?_ GE317.out) | exact HB.out)⟩
    ·rw [if_neg c46] at H
     have c46b0 : (a3_0 == 1) = false := beq_eq_false_iff_ne.mpr c46
     have c46b1 : (a3_0 != 1) = true := bne_iff_ne.mpr c46
     by_cases c71 : a3_0 = 2
     ·rw [if_pos c71] at H
      have c71b0 : (a3_0 == 2) = true := beq_iff_eq.mpr c71
      have c71b1 : (a3_0 != 2) = false := bne_eq_false_iff_eq.mpr c71
      clear c71
      have H' := Aside0.mk H
      clear H
      have hnb72 := NB316_314.out
      have hnc72 := NB314_316.out
      have hnb73 := NB316_315.out
      have hnc73 := NB315_316.out
      have hnb74 := NB316_317.out
      have hnc74 := NB317_316.out
      obtain ⟨hcz75_0, hcz75_1, hfz75_0, hfz75_1⟩ := zs2 BK316
      go_wp2
      go_loopg [9, 52] kj4 (fun kq v9 v52 w' => ∃ (x9_2 : Int) (x52_2 : Int), v9 = .int .i64 x9_2 ∧ v52 = .int .i64 x52_2 ∧ Aside0 (spec_Do.l0 kq l1 x9_2 l1 (l1.length : Int) x52_2 a0_0 a0_1 a0_2 a0_3 a0_4 a2_0 a2_1 a2_2 a2_3 a2_4 a2_5 a3_0 a3_1 = some (r1, r2, r3, r4, r5, r6)) ∧ Aside0 (kq ≤ kj4) ∧ Aside0 (w'.heap[gb314]? = some (.cells #[.int .i64 a0_0, .int .i64 a0_1, .int .i64 a0_2, .int .i64 a0_3, .int .i64 a0_4] 24 (0, 0))) ∧ Aside0 (w'.heap[gb315]? = some (.cells #[.bool a2_0, .int .i64 a2_1, .int .i64 a2_2, .int .i64 a2_3, .int .i64 a2_4, .int .i64 a2_5] 29 (0, 0))) ∧ Aside0 (w'.heap[gb316]? = some (.cells #[.int .i64 a3_0, .int .i64 a3_1] 34 (0, 0))) ∧ Aside0 (w'.heap[gb317]? = some (.cells #[.bool false, .int .i64 0, .int .i64 0, .int .i64 0, .int .i64 0, .int .i64 0] 29 (0, 0))) ∧ Aside0 (Below w.heap.size w w'))
      case atStart => exact ⟨((-1)), (0), ze, ze, H', ⟨Nat.le_refl _⟩, ⟨zy BK314⟩, ⟨zy BK315⟩, ⟨zy BK316⟩, ⟨zy BK317⟩, ⟨by repeat (first | (with_reducible first | exact HB.out | apply below_alloc | apply pw_below_drewN | apply below_drew1 | refine below_set ?_ GE314.out | refine below_set ?_ GE315.out | refine below_set ?_ GE316.out | refine below_set ?_ GE317.out) | exact HB.out)⟩⟩
      case round =>
       clear H'
       (try clear c1); (try clear c2); (try clear p2); (try clear c3); (try clear c4); (try clear c5); (try clear c6); (try clear p6); (try clear c7); (try clear c11); (try clear c13); (try clear c15); (try clear c16); (try clear c17); (try clear c20); (try clear c21); (try clear c24); (try clear c27); (try clear c28); (try clear c29); (try clear c32); (try clear c33); (try clear c36); (try clear c37); (try clear c38); (try clear c41); (try clear c42); (try clear c43); (try clear c44); (try clear c46); (try clear c46b0); (try clear c46b1); (try clear c48); (try clear c50); (try clear c51); (try clear c52); (try clear c54); (try clear c55); (try clear c57); (try clear c62); (try clear c63); (try clear c64); (try clear p64); (try clear c66); (try clear c67); (try clear c69); (try clear c70); (try clear c71); (try clear c71b0); (try clear c71b1); (try clear c72); (try clear c73); (try clear c74); (try clear hcz18_0); (try clear hcz18_1); (try clear hcz18_2); (try clear hcz18_3); (try clear hcz18_4); (try clear hcz22_0); (try clear hcz22_1); (try clear hcz22_2); (try clear hcz22_3); (try clear hcz22_4); (try clear hcz22_5); (try clear hcz25_0); (try clear hcz25_1); (try clear hcz30_0); (try clear hcz30_1); (try clear hcz30_2); (try clear hcz30_3); (try clear hcz30_4); (try clear hcz34_0); (try clear hcz34_1); (try clear hcz34_2); (try clear hcz34_3); (try clear hcz34_4); (try clear hcz34_5); (try clear hcz39_0); (try clear hcz39_1); (try clear hcz39_2); (try clear hcz39_3); (try clear hcz39_4); (try clear hcz45_0); (try clear hcz45_1); (try clear hcz45_2); (try clear hcz45_3); (try clear hcz45_4); (try clear hcz45_5); (try clear hcz53_0); (try clear hcz53_1); (try clear hcz56_0); (try clear hcz56_1); (try clear hcz56_2); (try clear hcz56_3); (try clear hcz56_4); (try clear hcz56_5); (try clear hcz58_0); (try clear hcz58_1); (try clear hcz58_2); (try clear hcz58_3); (try clear hcz58_4); (try clear hcz60_0); (try clear hcz60_1); (try clear hcz60_2); (try clear hcz60_3); (try clear hcz60_4); (try clear hcz60_5); (try clear hcz61_0); (try clear hcz61_1); (try clear hcz61_2); (try clear hcz61_3); (try clear hcz61_4); (try clear hcz61_5); (try clear hcz65_0); (try clear hcz65_1); (try clear hcz68_0); (try clear hcz68_1); (try clear hcz68_2); (try clear hcz68_3); (try clear hcz68_4); (try clear hcz68_5); (try clear hcz70_0); (try clear hcz70_1); (try clear hcz70_2); (try clear hcz70_3); (try clear hcz70_4); (try clear hcz70_5); (try clear hcz75_0); (try clear hcz75_1); (try clear hfz18_0); (try clear hfz18_1); (try clear hfz18_2); (try clear hfz18_3); (try clear hfz18_4); (try clear hfz22_0); (try clear hfz22_1); (try clear hfz22_2); (try clear hfz22_3); (try clear hfz22_4); (try clear hfz22_5); (try clear hfz25_0); (try clear hfz25_1); (try clear hfz30_0); (try clear hfz30_1); (try clear hfz30_2); (try clear hfz30_3); (try clear hfz30_4); (try clear hfz34_0); (try clear hfz34_1); (try clear hfz34_2); (try clear hfz34_3); (try clear hfz34_4); (try clear hfz34_5); (try clear hfz39_0); (try clear hfz39_1); (try clear hfz39_2); (try clear hfz39_3); (try clear hfz39_4); (try clear hfz45_0); (try clear hfz45_1); (try clear hfz45_2); (try clear hfz45_3); (try clear hfz45_4); (try clear hfz45_5); (try clear hfz53_0); (try clear hfz53_1); (try clear hfz56_0); (try clear hfz56_1); (try clear hfz56_2); (try clear hfz56_3); (try clear hfz56_4); (try clear hfz56_5); (try clear hfz58_0); (try clear hfz58_1); (try clear hfz58_2); (try clear hfz58_3); (try clear hfz58_4); (try clear hfz60_0); (try clear hfz60_1); (try clear hfz60_2); (try clear hfz60_3); (try clear hfz60_4); (try clear hfz60_5); (try clear hfz61_0); (try clear hfz61_1); (try clear hfz61_2); (try clear hfz61_3); (try clear hfz61_4); (try clear hfz61_5); (try clear hfz65_0); (try clear hfz65_1); (try clear hfz68_0); (try clear hfz68_1); (try clear hfz68_2); (try clear hfz68_3); (try clear hfz68_4); (try clear hfz68_5); (try clear hfz70_0); (try clear hfz70_1); (try clear hfz70_2); (try clear hfz70_3); (try clear hfz70_4); (try clear hfz70_5); (try clear hfz75_0); (try clear hfz75_1); (try clear p2)
       obtain ⟨x9_2, x52_2, rfl, rfl, HA, HK2, BK314, BK315, BK316, BK317, HB⟩ := hrel
       cases gk with
       | zero => exact absurd HA.out (by simp [spec_Do.l0])
       | succ k2 =>
        have H := HA.out
        clear HA
        simp only [spec_Do.l0] at H
        by_cases c76 : x52_2 < (l1.length : Int)
        ·rw [if_pos c76] at H
         have c76b0 : decide (x52_2 < (l1.length : Int)) = true := decide_eq_true c76
         clear c76
         by_cases c77 : 0 ≤ x52_2
         ·rw [if_pos c77] at H
          have c77b0 : decide (0 ≤ x52_2) = true := decide_eq_true c77
          clear c77
          by_cases c78 : x52_2 < (l1.length : Int)
          ·rw [if_pos c78] at H
           have c78b0 : decide (x52_2 < (l1.length : Int)) = true := decide_eq_true c78
           clear c78
           by_cases c79 : ((rd_T37 l1 x52_2).f0) = a3_1
           ·rw [if_pos c79] at H
            have c79b0 : (((rd_T37 l1 x52_2).f0) == a3_1) = true := beq_iff_eq.mpr c79
            have c79b1 : (((rd_T37 l1 x52_2).f0) != a3_1) = false := bne_eq_false_iff_eq.mpr c79
            clear c79
            have H' := Aside0.mk H
            clear H
            have p324 : 0 ≤ (x52_2 : Int) := of_decide_eq_true (by first | (with_reducible assumption) | assumption)
            have q324 : x52_2 < (l1.length : Int) := of_decide_eq_true (by first | (with_reducible assumption) | assumption)
            obtain ⟨ad324, e324, hx324_0, hx324_1⟩ := at_T37 HR1.out x52_2 p324 q324
            cases e324
            replace hx324_0 := (HB.out.cell (World.block_lt_of_cell? w _ hx324_0)).trans hx324_0
            replace hx324_1 := (HB.out.cell (World.block_lt_of_cell? w _ hx324_1)).trans hx324_1
            replace p324 := eq_true p324
            replace q324 := eq_true q324
            go_wp2_with (first | ((with_reducible refine gate_dst (N := 11) rfl ?_); refine zx 11 #[.int .i64 0, .int .i64 0] 37 ?_; intro gb325 hg w80 hbox hb; have BK325 := Aside0.mk (hbox); have GW325 := zge HB hg; have GE325 := GW325; have NB314_325 := zl BK314 hg; have NB325_314 := zg BK314 hg; have NB315_325 := zl BK315 hg; have NB325_315 := zg BK315 hg; have NB316_325 := zl BK316 hg; have NB325_316 := zg BK316 hg; have NB317_325 := zl BK317 hg; have NB325_317 := zg BK317 hg; replace BK314 := zb BK314 hb; replace BK315 := zb BK315 hb; replace BK316 := zb BK316 hb; replace BK317 := zb BK317 hb; replace HB := zB HB hb; clear hb hbox hg; have hnb81 := NB325_314.out; have hnc81 := NB314_325.out; have hnb82 := NB325_315.out; have hnc82 := NB315_325.out; have hnb83 := NB325_316.out; have hnc83 := NB316_325.out; have hnb84 := NB325_317.out; have hnc84 := NB317_325.out; obtain ⟨hcz85_0, hcz85_1, hfz85_0, hfz85_1⟩ := zs2 BK325; have hnb86 := NB316_314.out; have hnc86 := NB314_316.out; have hnb87 := NB316_315.out; have hnc87 := NB315_316.out; have hnb88 := NB316_317.out; have hnc88 := NB317_316.out; obtain ⟨hcz89_0, hcz89_1, hfz89_0, hfz89_1⟩ := zs2 BK316))
            go_roundg k2
            case measure => have := HJ4.out; have := HK2.out; omega
            case rel => exact ⟨(x52_2), (wrap64 (x52_2 + 1)), ze, ze, H', ⟨by have := HJ4.out; have := HK2.out; omega⟩, ⟨by (with_reducible repeat (first | refine blk_drewN ?_ _ | refine blk_drew ?_ | refine blk_alloc ?_ _)); refine blk_far ?_ NB314_325.out _; (with_reducible repeat (first | refine blk_drewN ?_ _ | refine blk_drew ?_ | refine blk_alloc ?_ _)); refine blk_far ?_ NB314_325.out _; (with_reducible repeat (first | refine blk_drewN ?_ _ | refine blk_drew ?_ | refine blk_alloc ?_ _)); exact BK314.out⟩, ⟨by (with_reducible repeat (first | refine blk_drewN ?_ _ | refine blk_drew ?_ | refine blk_alloc ?_ _)); refine blk_far ?_ NB315_325.out _; (with_reducible repeat (first | refine blk_drewN ?_ _ | refine blk_drew ?_ | refine blk_alloc ?_ _)); refine blk_far ?_ NB315_325.out _; (with_reducible repeat (first | refine blk_drewN ?_ _ | refine blk_drew ?_ | refine blk_alloc ?_ _)); exact BK315.out⟩, ⟨by (with_reducible repeat (first | refine blk_drewN ?_ _ | refine blk_drew ?_ | refine blk_alloc ?_ _)); refine blk_far ?_ NB316_325.out _; (with_reducible repeat (first | refine blk_drewN ?_ _ | refine blk_drew ?_ | refine blk_alloc ?_ _)); refine blk_far ?_ NB316_325.out _; (with_reducible repeat (first | refine blk_drewN ?_ _ | refine blk_drew ?_ | refine blk_alloc ?_ _)); exact BK316.out⟩, ⟨by (with_reducible repeat (first | refine blk_drewN ?_ _ | refine blk_drew ?_ | refine blk_alloc ?_ _)); refine blk_far ?_ NB317_325.out _; (with_reducible repeat (first | refine blk_drewN ?_ _ | refine blk_drew ?_ | refine blk_alloc ?_ _)); refine blk_far ?_ NB317_325.out _; (with_reducible repeat (first | refine blk_drewN ?_ _ | refine blk_drew ?_ | refine blk_alloc ?_ _)); exact BK317.out⟩, ⟨by repeat (first | (with_reducible first | exact HB.out | apply below_alloc | apply pw_below_drewN | apply below_drew1 | refine below_set ?_ GE314.out | refine below_set ?_ GE315.out | refine below_set ?_ GE316.out | refine below_set ?_ GE317.out | refine below_set ?_ GE325.out) | exact HB.out)⟩⟩
           ·rw [if_neg c79] at H
            have c79b0 : (((rd_T37 l1 x52_2).f0) == a3_1) = false := beq_eq_false_iff_ne.mpr c79
            have c79b1 : (((rd_T37 l1 x52_2).f0) != a3_1) = true := bne_iff_ne.mpr c79
            have H' := Aside0.mk H
            clear H
            have p324 : 0 ≤ (x52_2 : Int) := of_decide_eq_true (by first | (with_reducible assumption) | assumption)
            have q324 : x52_2 < (l1.length : Int) := of_decide_eq_true (by first | (with_reducible assumption) | assumption)
            obtain ⟨ad324, e324, hx324_0, hx324_1⟩ := at_T37 HR1.out x52_2 p324 q324
            cases e324
            replace hx324_0 := (HB.out.cell (World.block_lt_of_cell? w _ hx324_0)).trans hx324_0
            replace hx324_1 := (HB.out.cell (World.block_lt_of_cell? w _ hx324_1)).trans hx324_1
            replace p324 := eq_true p324
            replace q324 := eq_true q324
            go_wp2_with (first | ((with_reducible refine gate_dst (N := 11) rfl ?_); refine zx 11 #[.int .i64 0, .int .i64 0] 37 ?_; intro gb325 hg w90 hbox hb; have BK325 := Aside0.mk (hbox); have GW325 := zge HB hg; have GE325 := GW325; have NB314_325 := zl BK314 hg; have NB325_314 := zg BK314 hg; have NB315_325 := zl BK315 hg; have NB325_315 := zg BK315 hg; have NB316_325 := zl BK316 hg; have NB325_316 := zg BK316 hg; have NB317_325 := zl BK317 hg; have NB325_317 := zg BK317 hg; replace BK314 := zb BK314 hb; replace BK315 := zb BK315 hb; replace BK316 := zb BK316 hb; replace BK317 := zb BK317 hb; replace HB := zB HB hb; clear hb hbox hg; have hnb91 := NB325_314.out; have hnc91 := NB314_325.out; have hnb92 := NB325_315.out; have hnc92 := NB315_325.out; have hnb93 := NB325_316.out; have hnc93 := NB316_325.out; have hnb94 := NB325_317.out; have hnc94 := NB317_325.out; obtain ⟨hcz95_0, hcz95_1, hfz95_0, hfz95_1⟩ := zs2 BK325; have hnb96 := NB316_314.out; have hnc96 := NB314_316.out; have hnb97 := NB316_315.out; have hnc97 := NB315_316.out; have hnb98 := NB316_317.out; have hnc98 := NB317_316.out; obtain ⟨hcz99_0, hcz99_1, hfz99_0, hfz99_1⟩ := zs2 BK316))
            go_roundg k2
            case measure => have := HJ4.out; have := HK2.out; omega
            case rel => exact ⟨(x9_2), (wrap64 (x52_2 + 1)), ze, ze, H', ⟨by have := HJ4.out; have := HK2.out; omega⟩, ⟨by (with_reducible repeat (first | refine blk_drewN ?_ _ | refine blk_drew ?_ | refine blk_alloc ?_ _)); refine blk_far ?_ NB314_325.out _; (with_reducible repeat (first | refine blk_drewN ?_ _ | refine blk_drew ?_ | refine blk_alloc ?_ _)); refine blk_far ?_ NB314_325.out _; (with_reducible repeat (first | refine blk_drewN ?_ _ | refine blk_drew ?_ | refine blk_alloc ?_ _)); exact BK314.out⟩, ⟨by (with_reducible repeat (first | refine blk_drewN ?_ _ | refine blk_drew ?_ | refine blk_alloc ?_ _)); refine blk_far ?_ NB315_325.out _; (with_reducible repeat (first | refine blk_drewN ?_ _ | refine blk_drew ?_ | refine blk_alloc ?_ _)); refine blk_far ?_ NB315_325.out _; (with_reducible repeat (first | refine blk_drewN ?_ _ | refine blk_drew ?_ | refine blk_alloc ?_ _)); exact BK315.out⟩, ⟨by (with_reducible repeat (first | refine blk_drewN ?_ _ | refine blk_drew ?_ | refine blk_alloc ?_ _)); refine blk_far ?_ NB316_325.out _; (with_reducible repeat (first | refine blk_drewN ?_ _ | refine blk_drew ?_ | refine blk_alloc ?_ _)); refine blk_far ?_ NB316_325.out _; (with_reducible repeat (first | refine blk_drewN ?_ _ | refine blk_drew ?_ | refine blk_alloc ?_ _)); exact BK316.out⟩, ⟨by (with_reducible repeat (first | refine blk_drewN ?_ _ | refine blk_drew ?_ | refine blk_alloc ?_ _)); refine blk_far ?_ NB317_325.out _; (with_reducible repeat (first | refine blk_drewN ?_ _ | refine blk_drew ?_ | refine blk_alloc ?_ _)); refine blk_far ?_ NB317_325.out _; (with_reducible repeat (first | refine blk_drewN ?_ _ | refine blk_drew ?_ | refine blk_alloc ?_ _)); exact BK317.out⟩, ⟨by repeat (first | (with_reducible first | exact HB.out | apply below_alloc | apply pw_below_drewN | apply below_drew1 | refine below_set ?_ GE314.out | refine below_set ?_ GE315.out | refine below_set ?_ GE316.out | refine below_set ?_ GE317.out | refine below_set ?_ GE325.out) | exact HB.out)⟩⟩
          ·rw [if_neg c78] at H
           exact absurd H (by simp)
         ·rw [if_neg c77] at H
          exact absurd H (by simp)
        ·rw [if_neg c76] at H
         have c76b0 : decide (x52_2 < (l1.length : Int)) = false := decide_eq_false c76
         clear c76
         by_cases c100 : x9_2 < 0
         ·rw [if_pos c100] at H
          have c100b0 : decide (x9_2 < 0) = true := decide_eq_true c100
          clear c100
          replace H := Option.bind_eq_some_iff.mp H
          obtain ⟨t326, A1010, H⟩ := H
          replace H : (some (a2_0, a2_1, a2_2, a2_3, a2_4, t326)) = some (r1, r2, r3, r4, r5, r6) := H
          have A101 := Aside0.mk A1010
          clear A1010
          simp only [Option.some.injEq, Prod.mk.injEq] at H
          obtain ⟨rfl, rfl, rfl, rfl, rfl, rfl⟩ := H
          have hnb102 := NB315_314.out
          have hnc102 := NB314_315.out
          have hnb103 := NB315_316.out
          have hnc103 := NB316_315.out
          have hnb104 := NB315_317.out
          have hnc104 := NB317_315.out
          obtain ⟨hcz105_0, hcz105_1, hcz105_2, hcz105_3, hcz105_4, hcz105_5, hfz105_0, hfz105_1, hfz105_2, hfz105_3, hfz105_4, hfz105_5⟩ := zs6 BK315
          go_wp2_with (first | ((with_reducible refine gate_callee (f := 69) rfl ?_); refine zL (some 69) Try.func69 #[.int .i64 (wrap64 (a2_5 + 1)), .int .i64 1000000000] ?_; (with_reducible refine (spec_l2least.calls (wrap64 (a2_5 + 1)) 1000000000 t326 _ A101.out).mono ?_); rintro e w' ⟨rfl, ⟨nd, rfl⟩⟩; refine ⟨_, rfl, ?_⟩; (try (rw [drewN_self wr]; generalize hq_ : World.drewN wr _ = wr; have n0_ : Aside0 (wr.heap[gb314]? = some (.cells #[.int .i64 a0_0, .int .i64 a0_1, .int .i64 a0_2, .int .i64 a0_3, .int .i64 a0_4] 24 (0, 0))) := ⟨by rw [← hq_]; exact (zy BK314)⟩; have n1_ : Aside0 (wr.heap[gb315]? = some (.cells #[.bool a2_0, .int .i64 a2_1, .int .i64 a2_2, .int .i64 a2_3, .int .i64 a2_4, .int .i64 a2_5] 29 (0, 0))) := ⟨by rw [← hq_]; exact (zy BK315)⟩; have n2_ : Aside0 (wr.heap[gb316]? = some (.cells #[.int .i64 a3_0, .int .i64 a3_1] 34 (0, 0))) := ⟨by rw [← hq_]; exact (zy BK316)⟩; have n3_ : Aside0 (wr.heap[gb317]? = some (.cells #[.bool false, .int .i64 0, .int .i64 0, .int .i64 0, .int .i64 0, .int .i64 0] 29 (0, 0))) := ⟨by rw [← hq_]; exact (zy BK317)⟩; have n4_ : Aside0 (Below w.heap.size w wr) := ⟨by rw [← hq_]; exact (by repeat (first | (with_reducible first | exact HB.out | apply below_alloc | apply pw_below_drewN | apply below_drew1 | refine below_set ?_ GE314.out | refine below_set ?_ GE315.out | refine below_set ?_ GE316.out | refine below_set ?_ GE317.out) | exact HB.out))⟩; clear BK314 BK315 BK316 BK317 HB hq_; have BK314 := n0_; have BK315 := n1_; have BK316 := n2_; have BK317 := n3_; have HB := n4_; clear n0_ n1_ n2_ n3_ n4_)); obtain ⟨hczm7_0, hczm7_1, hczm7_2, hczm7_3, hczm7_4, hfzm7_0, hfzm7_1, hfzm7_2, hfzm7_3, hfzm7_4⟩ := zs5 BK314; obtain ⟨hczm8_0, hczm8_1, hczm8_2, hczm8_3, hczm8_4, hczm8_5, hfzm8_0, hfzm8_1, hfzm8_2, hfzm8_3, hfzm8_4, hfzm8_5⟩ := zs6 BK315; obtain ⟨hczm9_0, hczm9_1, hfzm9_0, hfzm9_1⟩ := zs2 BK316; have hnb106 := NB317_314.out; have hnc106 := NB314_317.out; have hnb107 := NB317_316.out; have hnc107 := NB316_317.out; obtain ⟨hcz108_0, hcz108_1, hcz108_2, hcz108_3, hcz108_4, hcz108_5, hfz108_0, hfz108_1, hfz108_2, hfz108_3, hfz108_4, hfz108_5⟩ := zs6 BK317))
          refine bodyPost_ret (results_cell_row rfl _ _ gb317 29 #[.bool a2_0, .int .i64 a2_1, .int .i64 a2_2, .int .i64 a2_3, .int .i64 a2_4, .int .i64 t326] (0, 0) _ rfl (by (with_reducible repeat (first | refine blk_drewN ?_ _ | refine blk_drew ?_ | refine blk_alloc ?_ _)); refine blk_put (cs := #[.bool a2_0, .int .i64 a2_1, .int .i64 a2_2, .int .i64 a2_3, .int .i64 a2_4, .int .i64 0]) ?_ 5 _ rfl; (with_reducible repeat (first | refine blk_drewN ?_ _ | refine blk_drew ?_ | refine blk_alloc ?_ _)); refine blk_put (cs := #[.bool a2_0, .int .i64 a2_1, .int .i64 a2_2, .int .i64 a2_3, .int .i64 0, .int .i64 0]) ?_ 4 _ rfl; (with_reducible repeat (first | refine blk_drewN ?_ _ | refine blk_drew ?_ | refine blk_alloc ?_ _)); refine blk_put (cs := #[.bool a2_0, .int .i64 a2_1, .int .i64 a2_2, .int .i64 0, .int .i64 0, .int .i64 0]) ?_ 3 _ rfl; (with_reducible repeat (first | refine blk_drewN ?_ _ | refine blk_drew ?_ | refine blk_alloc ?_ _)); refine blk_put (cs := #[.bool a2_0, .int .i64 a2_1, .int .i64 0, .int .i64 0, .int .i64 0, .int .i64 0]) ?_ 2 _ rfl; (with_reducible repeat (first | refine blk_drewN ?_ _ | refine blk_drew ?_ | refine blk_alloc ?_ _)); refine blk_put (cs := #[.bool a2_0, .int .i64 0, .int .i64 0, .int .i64 0, .int .i64 0, .int .i64 0]) ?_ 1 _ rfl; (with_reducible repeat (first | refine blk_drewN ?_ _ | refine blk_drew ?_ | refine blk_alloc ?_ _)); refine blk_put (cs := #[.bool false, .int .i64 0, .int .i64 0, .int .i64 0, .int .i64 0, .int .i64 0]) ?_ 0 _ rfl; (with_reducible repeat (first | refine blk_drewN ?_ _ | refine blk_drew ?_ | refine blk_alloc ?_ _)); refine blk_far ?_ NB317_315.out _; (with_reducible repeat (first | refine blk_drewN ?_ _ | refine blk_drew ?_ | refine blk_alloc ?_ _)); exact BK317.out) Try.underlying29 rfl (by kernel_rfl)) rfl ?_
          exact ⟨by first | rfl | (simp [errW_none, errW_some] <;> rfl) | (simp [*, errW_none, errW_some] <;> rfl), by repeat (first | (with_reducible first | exact HB.out | apply below_alloc | apply pw_below_drewN | apply below_drew1 | refine below_set ?_ GE314.out | refine below_set ?_ GE315.out | refine below_set ?_ GE316.out | refine below_set ?_ GE317.out) | exact HB.out)⟩
         ·rw [if_neg c100] at H
          have c100b0 : decide (x9_2 < 0) = false := decide_eq_false c100
          clear c100
          by_cases c109 : 0 ≤ x9_2
          ·rw [if_pos c109] at H
           have c109b0 : decide (0 ≤ x9_2) = true := decide_eq_true c109
           clear c109
           by_cases c110 : x9_2 < (l1.length : Int)
           ·rw [if_pos c110] at H
            have c110b0 : decide (x9_2 < (l1.length : Int)) = true := decide_eq_true c110
            clear c110
            by_cases c111 : a2_0 = true
            ·subst c111
             have H1 : ((spec_l1clip.f k2 (wrap64 (((rd_T37 l1 x9_2).f1) - a0_2)) (wrap64 (((rd_T37 l1 x9_2).f1) + a0_2))).bind fun bt330 => ((spec_Meets.f a2_1 a2_2 bt330.1 bt330.2).bind fun t332 => (if t332 = true then ((spec_Read.f k2 a0_0 a0_1 a0_2 a0_3 a0_4 a2_1 a2_2 ((rd_T37 l1 x9_2).f1)).bind fun bt334 => (some (true, bt334.1, bt334.2, 0, x9_2, a2_5))) else ((spec_l2least.f (wrap64 (a2_5 + 1)) 1000000000).bind fun t336 => ((spec_Read.f k2 a0_0 a0_1 a0_2 a0_3 a0_4 a2_1 a2_2 ((rd_T37 l1 x9_2).f1)).bind fun bt338 => (some (true, bt338.1, bt338.2, 0, x9_2, t336))))))) = some (r1, r2, r3, r4, r5, r6) := by rw [if_pos rfl] at H; exact H
             clear H
             have H := H1
             clear H1
             replace H := Option.bind_eq_some_iff.mp H
             obtain ⟨⟨t330, t331⟩, A1120, H⟩ := H
             replace H : ((spec_Meets.f a2_1 a2_2 t330 t331).bind fun t332 => (if t332 = true then ((spec_Read.f k2 a0_0 a0_1 a0_2 a0_3 a0_4 a2_1 a2_2 ((rd_T37 l1 x9_2).f1)).bind fun bt334 => (some (true, bt334.1, bt334.2, 0, x9_2, a2_5))) else ((spec_l2least.f (wrap64 (a2_5 + 1)) 1000000000).bind fun t336 => ((spec_Read.f k2 a0_0 a0_1 a0_2 a0_3 a0_4 a2_1 a2_2 ((rd_T37 l1 x9_2).f1)).bind fun bt338 => (some (true, bt338.1, bt338.2, 0, x9_2, t336)))))) = some (r1, r2, r3, r4, r5, r6) := H
             have A112 := Aside0.mk A1120
             clear A1120
             replace H := Option.bind_eq_some_iff.mp H
             obtain ⟨t332, A1130, H⟩ := H
             replace H : (if t332 = true then ((spec_Read.f k2 a0_0 a0_1 a0_2 a0_3 a0_4 a2_1 a2_2 ((rd_T37 l1 x9_2).f1)).bind fun bt334 => (some (true, bt334.1, bt334.2, 0, x9_2, a2_5))) else ((spec_l2least.f (wrap64 (a2_5 + 1)) 1000000000).bind fun t336 => ((spec_Read.f k2 a0_0 a0_1 a0_2 a0_3 a0_4 a2_1 a2_2 ((rd_T37 l1 x9_2).f1)).bind fun bt338 => (some (true, bt338.1, bt338.2, 0, x9_2, t336))))) = some (r1, r2, r3, r4, r5, r6) := H
             have A113 := Aside0.mk A1130
             clear A1130
             by_cases c114 : t332 = true
             ·subst c114
              have H1 : ((spec_Read.f k2 a0_0 a0_1 a0_2 a0_3 a0_4 a2_1 a2_2 ((rd_T37 l1 x9_2).f1)).bind fun bt334 => (some (true, bt334.1, bt334.2, 0, x9_2, a2_5))) = some (r1, r2, r3, r4, r5, r6) := by rw [if_pos rfl] at H; exact H
              clear H
              have H := H1
              clear H1
              replace H := Option.bind_eq_some_iff.mp H
              obtain ⟨⟨t334, t335⟩, A1150, H⟩ := H
              replace H : (some (true, t334, t335, 0, x9_2, a2_5)) = some (r1, r2, r3, r4, r5, r6) := H
              have A115 := Aside0.mk A1150
              clear A1150
              simp only [Option.some.injEq, Prod.mk.injEq] at H
              obtain ⟨rfl, rfl, rfl, rfl, rfl, rfl⟩ := H
              try go_wp2
              have n0_ := Aside0.mk (blk_drew BK314.out)
              have n1_ := Aside0.mk (blk_drew BK315.out)
              have n2_ := Aside0.mk (blk_drew BK316.out)
              have n3_ := Aside0.mk (blk_drew BK317.out)
              have n4_ := Aside0.mk (below_drew1 HB.out)
              clear BK314 BK315 BK316 BK317 HB
              have BK314 := n0_
              have BK315 := n1_
              have BK316 := n2_
              have BK317 := n3_
              have HB := n4_
              clear n0_ n1_ n2_ n3_ n4_
              have p327 : 0 ≤ (x9_2 : Int) := of_decide_eq_true (by first | (with_reducible assumption) | assumption)
              have q327 : x9_2 < (l1.length : Int) := of_decide_eq_true (by first | (with_reducible assumption) | assumption)
              obtain ⟨ad327, e327, hx327_0, hx327_1⟩ := at_T37 HR1.out x9_2 p327 q327
              have hw327_1 := hx327_1
              have hw327_0 := hx327_0
              cases e327
              replace hx327_0 := (HB.out.cell (World.block_lt_of_cell? w _ hx327_0)).trans hx327_0
              replace hx327_1 := (HB.out.cell (World.block_lt_of_cell? w _ hx327_1)).trans hx327_1
              replace p327 := eq_true p327
              replace q327 := eq_true q327
              have p328 : 0 ≤ (x9_2 : Int) := of_decide_eq_true (by first | (with_reducible assumption) | assumption)
              have q328 : x9_2 < (l1.length : Int) := of_decide_eq_true (by first | (with_reducible assumption) | assumption)
              obtain ⟨ad328, e328, hx328_0, hx328_1⟩ := at_T37 HR1.out x9_2 p328 q328
              have hw328_1 := hx328_1
              have hw328_0 := hx328_0
              obtain rfl : ad327 = ad328 := (by injection e328)
              replace hx328_0 := (HB.out.cell (World.block_lt_of_cell? w _ hx328_0)).trans hx328_0
              replace hx328_1 := (HB.out.cell (World.block_lt_of_cell? w _ hx328_1)).trans hx328_1
              replace p328 := eq_true p328
              replace q328 := eq_true q328
              refine start_ (n := 19) (S := fun w' => w'.cell? ⟨gb314, 0, none⟩ = some (.int .i64 a0_0) ∧ w'.cell? ⟨gb314, 1, none⟩ = some (.int .i64 a0_1) ∧ w'.cell? ⟨gb314, 2, none⟩ = some (.int .i64 a0_2) ∧ w'.cell? ⟨gb314, 3, none⟩ = some (.int .i64 a0_3) ∧ w'.cell? ⟨gb314, 4, none⟩ = some (.int .i64 a0_4) ∧ w'.cell? (ad327.add ((x9_2).toNat * 2)) = some (.int .i64 ((rd_T37 l1 x9_2).f0)) ∧ w'.cell? ⟨(ad327.add ((x9_2).toNat * 2)).block, (ad327.add ((x9_2).toNat * 2)).off + 1, none⟩ = some (.int .i64 ((rd_T37 l1 x9_2).f1)) ∧ w'.cell? (ad327.add ((x9_2).toNat * 2)) = some (.int .i64 ((rd_T37 l1 x9_2).f0)) ∧ w'.cell? ⟨(ad327.add ((x9_2).toNat * 2)).block, (ad327.add ((x9_2).toNat * 2)).off + 1, none⟩ = some (.int .i64 ((rd_T37 l1 x9_2).f1))) (ds := []) #[false, false, false, false, false, false, false, false, false, false, false, false, false, false, false, false, false, false, false] (by kernel_rfl) rfl rfl ⟨zc BK314 0, zc BK314 1, zc BK314 2, zc BK314 3, zc BK314 4, (zf HB hw327_0), (zf HB hw327_1), (zf HB hw328_0), (zf HB hw328_1)⟩ (fun hHeld => ?_); refine with_tabW spec_Do.tab19 spec_Do.bits19 (fun HT_ HW_ => ?_)
              generalize wr.drew = w116 at BK314 BK315 BK316 BK317 HB hx327_0 hx327_1 hx328_0 hx328_1 hHeld ⊢
              refine zp 0 72 (zm 19 1) HT_ ?_
              refine zp 1 73 (zm 19 3) HT_ ?_
              refine zp 2 74 (zm 19 7) HT_ ?_
              refine zp 3 75 (zm 19 15) HT_ ?_
              refine zp 5 77 (zm 19 47) HT_ ?_
              refine zp 8 80 (zm 19 303) HT_ ?_
              refine zp 9 81 (zm 19 815) HT_ ?_
              refine zp 10 82 (zm 19 1839) HT_ ?_
              refine zp 11 83 (zm 19 3887) HT_ ?_
              refine zp 13 85 (zm 19 12079) HT_ ?_
              refine zt 4 76 (zm 19 12095) HT_ HW_ hHeld ?_
              refine zt 6 78 (zm 19 12159) HT_ HW_ hHeld ?_
              refine zp 7 79 (zm 19 12287) HT_ ?_
              refine zt 12 84 (zm 19 16383) HT_ HW_ hHeld ?_
              refine zt 14 86 (zm 19 32767) HT_ HW_ hHeld ?_
              refine zp 15 87 (zm 19 65535) HT_ ?_
              refine zp 16 88 (zm 19 131071) HT_ ?_
              refine zo 17 (some 12) (zm 19 262143) HT_ (fun K hK => ?_)
              refine box_step ?hg (N := 12) ?hd (cs := #[.int .i64 0, .int .i64 0]) (t := 27) ?hr ?_; (case hd => rfl); (case hg => rfl); (case hr => first | (go_simp; done) | (go_simp; rfl))
              intro gb329 hg w117 hbox hb
              have BK329 := Aside0.mk (hbox)
              have GW329 := zge HB hg
              have GE329 := GW329
              have NB314_329 := zl BK314 hg
              have NB329_314 := zg BK314 hg
              have NB315_329 := zl BK315 hg
              have NB329_315 := zg BK315 hg
              have NB316_329 := zl BK316 hg
              have NB329_316 := zg BK316 hg
              have NB317_329 := zl BK317 hg
              have NB329_317 := zg BK317 hg
              replace BK314 := zb BK314 hb
              replace BK315 := zb BK315 hb
              replace BK316 := zb BK316 hb
              replace BK317 := zb BK317 hb
              replace HB := zB HB hb
              clear hb hbox hg
              refine hK.out _ _ ⟨zc BK314 0, zc BK314 1, zc BK314 2, zc BK314 3, zc BK314 4, (zf HB hw327_0), (zf HB hw327_1), (zf HB hw328_0), (zf HB hw328_1)⟩ (fun hHeld => ?_)
              clear hK K
              refine zn 12 ?_
              refine zo 18 (none) (zm 19 524287) HT_ (fun K hK => ?_)
              have hs118 : w117.cell? ⟨gb329, 0, none⟩ = some (.int .i64 0) := zc BK329 0
              have hfs118 := blk_frozen BK329.out 0
              have hns118_0 := NB314_329.out
              have hns118_1 := NB315_329.out
              have hns118_2 := NB316_329.out
              have hns118_3 := NB317_329.out
              have hms118_0 := NB329_314.out
              have hms118_1 := NB329_315.out
              have hms118_2 := NB329_316.out
              have hms118_3 := NB329_317.out
              have hs119 : w117.cell? ⟨gb329, 1, none⟩ = some (.int .i64 0) := zc BK329 1
              have hfs119 := blk_frozen BK329.out 1
              have hns119_0 := NB314_329.out
              have hns119_1 := NB315_329.out
              have hns119_2 := NB316_329.out
              have hns119_3 := NB317_329.out
              have hms119_0 := NB329_314.out
              have hms119_1 := NB329_315.out
              have hms119_2 := NB329_316.out
              have hms119_3 := NB329_317.out
              refine skip_ (w1 := ?_) (by rfl) rfl ?_ ?_
              rotate_left
              ·go_simp
               rfl
              refine hK.out _ _ ⟨((cell_far (p := ⟨gb329, _, none⟩) NB314_329.out _).trans (((cell_far (p := ⟨gb329, _, none⟩) NB314_329.out _).trans (hHeld.1)))), ((cell_far (p := ⟨gb329, _, none⟩) NB314_329.out _).trans (((cell_far (p := ⟨gb329, _, none⟩) NB314_329.out _).trans (hHeld.2.1)))), ((cell_far (p := ⟨gb329, _, none⟩) NB314_329.out _).trans (((cell_far (p := ⟨gb329, _, none⟩) NB314_329.out _).trans (hHeld.2.2.1)))), ((cell_far (p := ⟨gb329, _, none⟩) NB314_329.out _).trans (((cell_far (p := ⟨gb329, _, none⟩) NB314_329.out _).trans (hHeld.2.2.2.1)))), ((cell_far (p := ⟨gb329, _, none⟩) NB314_329.out _).trans (((cell_far (p := ⟨gb329, _, none⟩) NB314_329.out _).trans (hHeld.2.2.2.2.1)))), ((cell_far (p := ⟨gb329, _, none⟩) (by first | exact Nat.ne_of_lt (Nat.lt_of_lt_of_le (by have := World.block_lt_of_cell? _ _ hw327_0; first | rwa [add_block] at this | exact this) GW329.out) | (rw [add_block]; exact Nat.ne_of_lt (Nat.lt_of_lt_of_le (by have := World.block_lt_of_cell? _ _ hw327_0; first | rwa [add_block] at this | exact this) GW329.out)) | (show (Addr.add _ _).block ≠ _; rw [add_block]; exact Nat.ne_of_lt (Nat.lt_of_lt_of_le (by have := World.block_lt_of_cell? _ _ hw327_0; first | rwa [add_block] at this | exact this) GW329.out)) | (dsimp only; exact Nat.ne_of_lt (Nat.lt_of_lt_of_le (by have := World.block_lt_of_cell? _ _ hw327_0; first | rwa [add_block] at this | exact this) GW329.out))) _).trans (((cell_far (p := ⟨gb329, _, none⟩) (by first | exact Nat.ne_of_lt (Nat.lt_of_lt_of_le (by have := World.block_lt_of_cell? _ _ hw327_0; first | rwa [add_block] at this | exact this) GW329.out) | (rw [add_block]; exact Nat.ne_of_lt (Nat.lt_of_lt_of_le (by have := World.block_lt_of_cell? _ _ hw327_0; first | rwa [add_block] at this | exact this) GW329.out)) | (show (Addr.add _ _).block ≠ _; rw [add_block]; exact Nat.ne_of_lt (Nat.lt_of_lt_of_le (by have := World.block_lt_of_cell? _ _ hw327_0; first | rwa [add_block] at this | exact this) GW329.out)) | (dsimp only; exact Nat.ne_of_lt (Nat.lt_of_lt_of_le (by have := World.block_lt_of_cell? _ _ hw327_0; first | rwa [add_block] at this | exact this) GW329.out))) _).trans (hHeld.2.2.2.2.2.1)))), ((cell_far (p := ⟨gb329, _, none⟩) (by first | exact Nat.ne_of_lt (Nat.lt_of_lt_of_le (by have := World.block_lt_of_cell? _ _ hw327_1; first | rwa [add_block] at this | exact this) GW329.out) | (rw [add_block]; exact Nat.ne_of_lt (Nat.lt_of_lt_of_le (by have := World.block_lt_of_cell? _ _ hw327_1; first | rwa [add_block] at this | exact this) GW329.out)) | (show (Addr.add _ _).block ≠ _; rw [add_block]; exact Nat.ne_of_lt (Nat.lt_of_lt_of_le (by have := World.block_lt_of_cell? _ _ hw327_1; first | rwa [add_block] at this | exact this) GW329.out)) | (dsimp only; exact Nat.ne_of_lt (Nat.lt_of_lt_of_le (by have := World.block_lt_of_cell? _ _ hw327_1; first | rwa [add_block] at this | exact this) GW329.out))) _).trans (((cell_far (p := ⟨gb329, _, none⟩) (by first | exact Nat.ne_of_lt (Nat.lt_of_lt_of_le (by have := World.block_lt_of_cell? _ _ hw327_1; first | rwa [add_block] at this | exact this) GW329.out) | (rw [add_block]; exact Nat.ne_of_lt (Nat.lt_of_lt_of_le (by have := World.block_lt_of_cell? _ _ hw327_1; first | rwa [add_block] at this | exact this) GW329.out)) | (show (Addr.add _ _).block ≠ _; rw [add_block]; exact Nat.ne_of_lt (Nat.lt_of_lt_of_le (by have := World.block_lt_of_cell? _ _ hw327_1; first | rwa [add_block] at this | exact this) GW329.out)) | (dsimp only; exact Nat.ne_of_lt (Nat.lt_of_lt_of_le (by have := World.block_lt_of_cell? _ _ hw327_1; first | rwa [add_block] at this | exact this) GW329.out))) _).trans (hHeld.2.2.2.2.2.2.1)))), ((cell_far (p := ⟨gb329, _, none⟩) (by first | exact Nat.ne_of_lt (Nat.lt_of_lt_of_le (by have := World.block_lt_of_cell? _ _ hw328_0; first | rwa [add_block] at this | exact this) GW329.out) | (rw [add_block]; exact Nat.ne_of_lt (Nat.lt_of_lt_of_le (by have := World.block_lt_of_cell? _ _ hw328_0; first | rwa [add_block] at this | exact this) GW329.out)) | (show (Addr.add _ _).block ≠ _; rw [add_block]; exact Nat.ne_of_lt (Nat.lt_of_lt_of_le (by have := World.block_lt_of_cell? _ _ hw328_0; first | rwa [add_block] at this | exact this) GW329.out)) | (dsimp only; exact Nat.ne_of_lt (Nat.lt_of_lt_of_le (by have := World.block_lt_of_cell? _ _ hw328_0; first | rwa [add_block] at this | exact this) GW329.out))) _).trans (((cell_far (p := ⟨gb329, _, none⟩) (by first | exact Nat.ne_of_lt (Nat.lt_of_lt_of_le (by have := World.block_lt_of_cell? _ _ hw328_0; first | rwa [add_block] at this | exact this) GW329.out) | (rw [add_block]; exact Nat.ne_of_lt (Nat.lt_of_lt_of_le (by have := World.block_lt_of_cell? _ _ hw328_0; first | rwa [add_block] at this | exact this) GW329.out)) | (show (Addr.add _ _).block ≠ _; rw [add_block]; exact Nat.ne_of_lt (Nat.lt_of_lt_of_le (by have := World.block_lt_of_cell? _ _ hw328_0; first | rwa [add_block] at this | exact this) GW329.out)) | (dsimp only; exact Nat.ne_of_lt (Nat.lt_of_lt_of_le (by have := World.block_lt_of_cell? _ _ hw328_0; first | rwa [add_block] at this | exact this) GW329.out))) _).trans (hHeld.2.2.2.2.2.2.2.1)))), ((cell_far (p := ⟨gb329, _, none⟩) (by first | exact Nat.ne_of_lt (Nat.lt_of_lt_of_le (by have := World.block_lt_of_cell? _ _ hw328_1; first | rwa [add_block] at this | exact this) GW329.out) | (rw [add_block]; exact Nat.ne_of_lt (Nat.lt_of_lt_of_le (by have := World.block_lt_of_cell? _ _ hw328_1; first | rwa [add_block] at this | exact this) GW329.out)) | (show (Addr.add _ _).block ≠ _; rw [add_block]; exact Nat.ne_of_lt (Nat.lt_of_lt_of_le (by have := World.block_lt_of_cell? _ _ hw328_1; first | rwa [add_block] at this | exact this) GW329.out)) | (dsimp only; exact Nat.ne_of_lt (Nat.lt_of_lt_of_le (by have := World.block_lt_of_cell? _ _ hw328_1; first | rwa [add_block] at this | exact this) GW329.out))) _).trans (((cell_far (p := ⟨gb329, _, none⟩) (by first | exact Nat.ne_of_lt (Nat.lt_of_lt_of_le (by have := World.block_lt_of_cell? _ _ hw328_1; first | rwa [add_block] at this | exact this) GW329.out) | (rw [add_block]; exact Nat.ne_of_lt (Nat.lt_of_lt_of_le (by have := World.block_lt_of_cell? _ _ hw328_1; first | rwa [add_block] at this | exact this) GW329.out)) | (show (Addr.add _ _).block ≠ _; rw [add_block]; exact Nat.ne_of_lt (Nat.lt_of_lt_of_le (by have := World.block_lt_of_cell? _ _ hw328_1; first | rwa [add_block] at this | exact this) GW329.out)) | (dsimp only; exact Nat.ne_of_lt (Nat.lt_of_lt_of_le (by have := World.block_lt_of_cell? _ _ hw328_1; first | rwa [add_block] at this | exact this) GW329.out))) _).trans (hHeld.2.2.2.2.2.2.2.2))))⟩ (fun hHeld => ?_)
              clear hK K
              refine done_ (done_of HT_.out (by kernel_rfl)) ?_
              have hnb120 := NB315_314.out
              have hnc120 := NB314_315.out
              have hnb121 := NB315_316.out
              have hnc121 := NB316_315.out
              have hnb122 := NB315_317.out
              have hnc122 := NB317_315.out
              have hnb123 := NB315_329.out
              have hnc123 := NB329_315.out
              obtain ⟨hcz124_0, hcz124_1, hcz124_2, hcz124_3, hcz124_4, hcz124_5, hfz124_0, hfz124_1, hfz124_2, hfz124_3, hfz124_4, hfz124_5⟩ := zs6 BK315
              try go_wp2
              have n0_ : Aside0 (((w117.setCell ⟨gb329, 0, none⟩ (.int .i64 (wrap64 (((rd_T37 l1 x9_2).f1) - a0_2)))).setCell ⟨gb329, 1, none⟩ (.int .i64 (wrap64 (((rd_T37 l1 x9_2).f1) + a0_2)))).heap[gb314]? = some (.cells #[.int .i64 a0_0, .int .i64 a0_1, .int .i64 a0_2, .int .i64 a0_3, .int .i64 a0_4] 24 (0, 0))) := ⟨by (with_reducible repeat (first | refine blk_drewN ?_ _ | refine blk_drew ?_ | refine blk_alloc ?_ _)); refine blk_far ?_ NB314_329.out _; (with_reducible repeat (first | refine blk_drewN ?_ _ | refine blk_drew ?_ | refine blk_alloc ?_ _)); refine blk_far ?_ NB314_329.out _; (with_reducible repeat (first | refine blk_drewN ?_ _ | refine blk_drew ?_ | refine blk_alloc ?_ _)); exact BK314.out⟩
              have n1_ : Aside0 (((w117.setCell ⟨gb329, 0, none⟩ (.int .i64 (wrap64 (((rd_T37 l1 x9_2).f1) - a0_2)))).setCell ⟨gb329, 1, none⟩ (.int .i64 (wrap64 (((rd_T37 l1 x9_2).f1) + a0_2)))).heap[gb315]? = some (.cells #[.bool true, .int .i64 a2_1, .int .i64 a2_2, .int .i64 a2_3, .int .i64 a2_4, .int .i64 a2_5] 29 (0, 0))) := ⟨by (with_reducible repeat (first | refine blk_drewN ?_ _ | refine blk_drew ?_ | refine blk_alloc ?_ _)); refine blk_far ?_ NB315_329.out _; (with_reducible repeat (first | refine blk_drewN ?_ _ | refine blk_drew ?_ | refine blk_alloc ?_ _)); refine blk_far ?_ NB315_329.out _; (with_reducible repeat (first | refine blk_drewN ?_ _ | refine blk_drew ?_ | refine blk_alloc ?_ _)); exact BK315.out⟩
              have n2_ : Aside0 (((w117.setCell ⟨gb329, 0, none⟩ (.int .i64 (wrap64 (((rd_T37 l1 x9_2).f1) - a0_2)))).setCell ⟨gb329, 1, none⟩ (.int .i64 (wrap64 (((rd_T37 l1 x9_2).f1) + a0_2)))).heap[gb316]? = some (.cells #[.int .i64 a3_0, .int .i64 a3_1] 34 (0, 0))) := ⟨by (with_reducible repeat (first | refine blk_drewN ?_ _ | refine blk_drew ?_ | refine blk_alloc ?_ _)); refine blk_far ?_ NB316_329.out _; (with_reducible repeat (first | refine blk_drewN ?_ _ | refine blk_drew ?_ | refine blk_alloc ?_ _)); refine blk_far ?_ NB316_329.out _; (with_reducible repeat (first | refine blk_drewN ?_ _ | refine blk_drew ?_ | refine blk_alloc ?_ _)); exact BK316.out⟩
              have n3_ : Aside0 (((w117.setCell ⟨gb329, 0, none⟩ (.int .i64 (wrap64 (((rd_T37 l1 x9_2).f1) - a0_2)))).setCell ⟨gb329, 1, none⟩ (.int .i64 (wrap64 (((rd_T37 l1 x9_2).f1) + a0_2)))).heap[gb317]? = some (.cells #[.bool false, .int .i64 0, .int .i64 0, .int .i64 0, .int .i64 0, .int .i64 0] 29 (0, 0))) := ⟨by (with_reducible repeat (first | refine blk_drewN ?_ _ | refine blk_drew ?_ | refine blk_alloc ?_ _)); refine blk_far ?_ NB317_329.out _; (with_reducible repeat (first | refine blk_drewN ?_ _ | refine blk_drew ?_ | refine blk_alloc ?_ _)); refine blk_far ?_ NB317_329.out _; (with_reducible repeat (first | refine blk_drewN ?_ _ | refine blk_drew ?_ | refine blk_alloc ?_ _)); exact BK317.out⟩
              have n4_ : Aside0 (((w117.setCell ⟨gb329, 0, none⟩ (.int .i64 (wrap64 (((rd_T37 l1 x9_2).f1) - a0_2)))).setCell ⟨gb329, 1, none⟩ (.int .i64 (wrap64 (((rd_T37 l1 x9_2).f1) + a0_2)))).heap[gb329]? = some (.cells #[.int .i64 (wrap64 (((rd_T37 l1 x9_2).f1) - a0_2)), .int .i64 (wrap64 (((rd_T37 l1 x9_2).f1) + a0_2))] 27 (0, 0))) := ⟨by (with_reducible repeat (first | refine blk_drewN ?_ _ | refine blk_drew ?_ | refine blk_alloc ?_ _)); refine blk_put (cs := #[.int .i64 (wrap64 (((rd_T37 l1 x9_2).f1) - a0_2)), .int .i64 0]) ?_ 1 _ rfl; (with_reducible repeat (first | refine blk_drewN ?_ _ | refine blk_drew ?_ | refine blk_alloc ?_ _)); refine blk_put (cs := #[.int .i64 0, .int .i64 0]) ?_ 0 _ rfl; (with_reducible repeat (first | refine blk_drewN ?_ _ | refine blk_drew ?_ | refine blk_alloc ?_ _)); exact BK329.out⟩
              have n5_ : Aside0 (Below w.heap.size w ((w117.setCell ⟨gb329, 0, none⟩ (.int .i64 (wrap64 (((rd_T37 l1 x9_2).f1) - a0_2)))).setCell ⟨gb329, 1, none⟩ (.int .i64 (wrap64 (((rd_T37 l1 x9_2).f1) + a0_2))))) := ⟨by repeat (first | (with_reducible first | exact HB.out | apply below_alloc | apply pw_below_drewN | apply below_drew1 | refine below_set ?_ GE314.out | refine below_set ?_ GE315.out | refine below_set ?_ GE316.out | refine below_set ?_ GE317.out | refine below_set ?_ GE329.out) | exact HB.out)⟩
              (try clear BK314)
              (try clear BK315)
              (try clear BK316)
              (try clear BK317)
              (try clear BK329)
              (try clear HB)
              generalize ((w117.setCell ⟨gb329, 0, none⟩ (.int .i64 (wrap64 (((rd_T37 l1 x9_2).f1) - a0_2)))).setCell ⟨gb329, 1, none⟩ (.int .i64 (wrap64 (((rd_T37 l1 x9_2).f1) + a0_2)))) = w125 at n0_ n1_ n2_ n3_ n4_ n5_ ⊢
              have BK314 := n0_
              have BK315 := n1_
              have BK316 := n2_
              have BK317 := n3_
              have BK329 := n4_
              have HB := n5_
              clear n0_ n1_ n2_ n3_ n4_ n5_
              have n0_ := Aside0.mk (blk_drew BK314.out)
              have n1_ := Aside0.mk (blk_drew BK315.out)
              have n2_ := Aside0.mk (blk_drew BK316.out)
              have n3_ := Aside0.mk (blk_drew BK317.out)
              have n4_ := Aside0.mk (blk_drew BK329.out)
              have n5_ := Aside0.mk (below_drew1 HB.out)
              clear BK314 BK315 BK316 BK317 BK329 HB
              have BK314 := n0_
              have BK315 := n1_
              have BK316 := n2_
              have BK317 := n3_
              have BK329 := n4_
              have HB := n5_
              clear n0_ n1_ n2_ n3_ n4_ n5_
              refine start_ (n := 6) (S := fun w' => w'.cell? ⟨gb315, 0, none⟩ = some (.bool true) ∧ w'.cell? ⟨gb315, 1, none⟩ = some (.int .i64 a2_1) ∧ w'.cell? ⟨gb315, 2, none⟩ = some (.int .i64 a2_2) ∧ w'.cell? ⟨gb315, 3, none⟩ = some (.int .i64 a2_3) ∧ w'.cell? ⟨gb315, 4, none⟩ = some (.int .i64 a2_4) ∧ w'.cell? ⟨gb315, 5, none⟩ = some (.int .i64 a2_5) ∧ w'.cell? ⟨gb329, 0, none⟩ = some (.int .i64 (wrap64 (((rd_T37 l1 x9_2).f1) - a0_2))) ∧ w'.cell? ⟨gb329, 1, none⟩ = some (.int .i64 (wrap64 (((rd_T37 l1 x9_2).f1) + a0_2)))) (ds := []) #[false, false, false, false, false, false] (by kernel_rfl) rfl rfl ⟨zc BK315 0, zc BK315 1, zc BK315 2, zc BK315 3, zc BK315 4, zc BK315 5, zc BK329 0, zc BK329 1⟩ (fun hHeld => ?_)
              generalize w125.drew = w126 at BK314 BK315 BK316 BK317 BK329 HB hHeld ⊢
              refine pure_ (i := 0) (N := some 95) (v := ?_) (a' := ?_) #[true, false, false, false, false, false] rfl rfl (by kernel_rfl) (fun _ _ _ h => h) (Or.inl ⟨by rfl, ?_⟩) ?_ ?_
              rotate_left
              ·intro w'
               go_simp
               with_reducible rfl
              rotate_left
              ·simp only [Act.put, List.setIfInBounds_toArray, List.set_cons_zero, List.set_cons_succ, i64_w, i32_w]
               rfl
              refine take_ (i := 1) (N := some 96) (v := ?_) (a' := ?_) #[true, true, false, false, false, false] rfl rfl (by kernel_rfl) (fun _ _ _ h => h) (Or.inl ⟨by rfl, ?_⟩) hHeld ?_ ?_
              rotate_left
              ·rintro w' ⟨s0, s1, s2, s3, s4, s5, s6, s7⟩
               go_simp
               with_reducible rfl
              rotate_left
              ·simp only [Act.put, List.setIfInBounds_toArray, List.set_cons_zero, List.set_cons_succ, i64_w, i32_w]
               rfl
              refine take_ (i := 2) (N := some 97) (v := ?_) (a' := ?_) #[true, true, true, false, false, false] rfl rfl (by kernel_rfl) (fun _ _ _ h => h) (Or.inl ⟨by rfl, ?_⟩) hHeld ?_ ?_
              rotate_left
              ·rintro w' ⟨s0, s1, s2, s3, s4, s5, s6, s7⟩
               go_simp
               with_reducible rfl
              rotate_left
              ·simp only [Act.put, List.setIfInBounds_toArray, List.set_cons_zero, List.set_cons_succ, i64_w, i32_w]
               rfl
              refine one_ (i := 3) (N := some 98) #[true, true, true, true, false, false] rfl rfl (by kernel_rfl) (by decide) (fun K hK => ?_)
              refine zG Try.func71 #[.agg #[.int .i64 (wrap64 (((rd_T37 l1 x9_2).f1) - a0_2)), .int .i64 (wrap64 (((rd_T37 l1 x9_2).f1) + a0_2))]] ?_
              with_reducible refine (spec_l1clip.calls k2 (wrap64 (((rd_T37 l1 x9_2).f1) - a0_2)) (wrap64 (((rd_T37 l1 x9_2).f1) + a0_2)) t330 t331 _ A112.out).mono ?_
              rintro e w127 ⟨rfl, hb⟩
              refine ⟨_, rfl, ?_⟩
              replace BK314 := zb BK314 hb
              replace BK315 := zb BK315 hb
              replace BK316 := zb BK316 hb
              replace BK317 := zb BK317 hb
              replace BK329 := zb BK329 hb
              replace HB := zB HB hb
              (try clear hb)
              refine hK.out _ _ ⟨zc BK315 0, zc BK315 1, zc BK315 2, zc BK315 3, zc BK315 4, zc BK315 5, zc BK329 0, zc BK329 1⟩ (fun hHeld => ?_)
              clear hK K
              refine zn 98 ?_
              refine one_ (i := 4) (N := some 99) #[true, true, true, true, true, false] rfl rfl (by kernel_rfl) (by decide) (fun K hK => ?_)
              refine zG Try.func72 #[.agg #[.int .i64 a2_1, .int .i64 a2_2], .agg #[.int .i64 t330, .int .i64 t331]] ?_
              with_reducible refine (spec_Meets.calls a2_1 a2_2 t330 t331 true _ A113.out).mono ?_
              rintro e w128 ⟨rfl, hb⟩
              refine ⟨_, rfl, ?_⟩
              replace BK314 := zb BK314 hb
              replace BK315 := zb BK315 hb
              replace BK316 := zb BK316 hb
              replace BK317 := zb BK317 hb
              replace BK329 := zb BK329 hb
              replace HB := zB HB hb
              (try clear hb)
              refine hK.out _ _ ⟨zc BK315 0, zc BK315 1, zc BK315 2, zc BK315 3, zc BK315 4, zc BK315 5, zc BK329 0, zc BK329 1⟩ (fun hHeld => ?_)
              clear hK K
              refine zn 99 ?_
              refine pure_ (i := 5) (N := some 100) (v := ?_) (a' := ?_) #[true, true, true, true, true, true] rfl rfl (by kernel_rfl) (fun _ _ _ h => h) (Or.inl ⟨by rfl, ?_⟩) ?_ ?_
              rotate_left
              ·intro w'
               go_simp
               with_reducible rfl
              rotate_left
              ·simp only [Act.put, List.setIfInBounds_toArray, List.set_cons_zero, List.set_cons_succ, i64_w, i32_w]
               rfl
              refine done_ (by kernel_rfl) ?_
              try go_wp2
              have n0_ := Aside0.mk (blk_drew BK314.out)
              have n1_ := Aside0.mk (blk_drew BK315.out)
              have n2_ := Aside0.mk (blk_drew BK316.out)
              have n3_ := Aside0.mk (blk_drew BK317.out)
              have n4_ := Aside0.mk (blk_drew BK329.out)
              have n5_ := Aside0.mk (below_drew1 HB.out)
              clear BK314 BK315 BK316 BK317 BK329 HB
              have BK314 := n0_
              have BK315 := n1_
              have BK316 := n2_
              have BK317 := n3_
              have BK329 := n4_
              have HB := n5_
              clear n0_ n1_ n2_ n3_ n4_ n5_
              have p333 : 0 ≤ (x9_2 : Int) := of_decide_eq_true (by first | (with_reducible assumption) | assumption)
              have q333 : x9_2 < (l1.length : Int) := of_decide_eq_true (by first | (with_reducible assumption) | assumption)
              obtain ⟨ad333, e333, hx333_0, hx333_1⟩ := at_T37 HR1.out x9_2 p333 q333
              have hw333_1 := hx333_1
              have hw333_0 := hx333_0
              obtain rfl : ad327 = ad333 := (by injection e333)
              replace hx333_0 := (HB.out.cell (World.block_lt_of_cell? w _ hx333_0)).trans hx333_0
              replace hx333_1 := (HB.out.cell (World.block_lt_of_cell? w _ hx333_1)).trans hx333_1
              replace p333 := eq_true p333
              replace q333 := eq_true q333
              refine start_ (n := 11) (S := fun w' => w'.cell? ⟨gb314, 0, none⟩ = some (.int .i64 a0_0) ∧ w'.cell? ⟨gb314, 1, none⟩ = some (.int .i64 a0_1) ∧ w'.cell? ⟨gb314, 2, none⟩ = some (.int .i64 a0_2) ∧ w'.cell? ⟨gb314, 3, none⟩ = some (.int .i64 a0_3) ∧ w'.cell? ⟨gb314, 4, none⟩ = some (.int .i64 a0_4) ∧ w'.cell? ⟨gb315, 0, none⟩ = some (.bool true) ∧ w'.cell? ⟨gb315, 1, none⟩ = some (.int .i64 a2_1) ∧ w'.cell? ⟨gb315, 2, none⟩ = some (.int .i64 a2_2) ∧ w'.cell? ⟨gb315, 3, none⟩ = some (.int .i64 a2_3) ∧ w'.cell? ⟨gb315, 4, none⟩ = some (.int .i64 a2_4) ∧ w'.cell? ⟨gb315, 5, none⟩ = some (.int .i64 a2_5) ∧ w'.cell? (ad327.add ((x9_2).toNat * 2)) = some (.int .i64 ((rd_T37 l1 x9_2).f0)) ∧ w'.cell? ⟨(ad327.add ((x9_2).toNat * 2)).block, (ad327.add ((x9_2).toNat * 2)).off + 1, none⟩ = some (.int .i64 ((rd_T37 l1 x9_2).f1))) (ds := [10]) #[false, false, false, false, false, false, false, false, false, false, false] (by kernel_rfl) rfl rfl ⟨zc BK314 0, zc BK314 1, zc BK314 2, zc BK314 3, zc BK314 4, zc BK315 0, zc BK315 1, zc BK315 2, zc BK315 3, zc BK315 4, zc BK315 5, (zf HB hw333_0), (zf HB hw333_1)⟩ (fun hHeld => ?_); refine with_tabW spec_Do.tab24 spec_Do.bits24 (fun HT_ HW_ => ?_)
              generalize w128.drew = w129 at BK314 BK315 BK316 BK317 BK329 HB hx333_0 hx333_1 hHeld ⊢
              refine zp 1 107 (zm 11 2) HT_ ?_
              refine zp 3 109 (zm 11 10) HT_ ?_
              refine zp 4 110 (zm 11 26) HT_ ?_
              refine zp 5 111 (zm 11 58) HT_ ?_
              refine zp 6 112 (zm 11 122) HT_ ?_
              refine zt 0 106 (zm 11 123) HT_ HW_ hHeld ?_
              refine zt 2 108 (zm 11 127) HT_ HW_ hHeld ?_
              refine zt 7 113 (zm 11 255) HT_ HW_ hHeld ?_
              refine zo 8 (some 114) (zm 11 511) HT_ (fun K hK => ?_)
              refine zG Try.func73 #[.agg #[.int .i64 a0_0, .int .i64 a0_1, .int .i64 a0_2, .int .i64 a0_3, .int .i64 a0_4], .agg #[.int .i64 a2_1, .int .i64 a2_2], .int .i64 ((rd_T37 l1 x9_2).f1)] ?_
              with_reducible refine (spec_Read.calls k2 a0_0 a0_1 a0_2 a0_3 a0_4 a2_1 a2_2 ((rd_T37 l1 x9_2).f1) t334 t335 _ A115.out).mono ?_
              rintro e w130 ⟨rfl, hb⟩
              refine ⟨_, rfl, ?_⟩
              replace BK314 := zb BK314 hb
              replace BK315 := zb BK315 hb
              replace BK316 := zb BK316 hb
              replace BK317 := zb BK317 hb
              replace BK329 := zb BK329 hb
              replace HB := zB HB hb
              (try clear hb)
              refine hK.out _ _ ⟨zc BK314 0, zc BK314 1, zc BK314 2, zc BK314 3, zc BK314 4, zc BK315 0, zc BK315 1, zc BK315 2, zc BK315 3, zc BK315 4, zc BK315 5, (zf HB hw333_0), (zf HB hw333_1)⟩ (fun hHeld => ?_)
              clear hK K
              refine zn 114 ?_
              refine zp 9 115 (zm 11 1023) HT_ ?_
              refine last_ (i := 10) (N := none) #[true, true, true, true, true, true, true, true, true, true, true] rfl rfl (one_of HT_.out (by kernel_rfl)) (by decide) (fun K hK => ?_)
              have hs131 : w130.cell? ⟨gb315, 1, none⟩ = some (.int .i64 a2_1) := zc BK315 1
              have hfs131 := blk_frozen BK315.out 1
              have hns131_0 := NB314_315.out
              have hns131_2 := NB316_315.out
              have hns131_3 := NB317_315.out
              have hns131_4 := NB329_315.out
              have hms131_0 := NB315_314.out
              have hms131_2 := NB315_316.out
              have hms131_3 := NB315_317.out
              have hms131_4 := NB315_329.out
              have hs132 : w130.cell? ⟨gb315, 2, none⟩ = some (.int .i64 a2_2) := zc BK315 2
              have hfs132 := blk_frozen BK315.out 2
              have hns132_0 := NB314_315.out
              have hns132_2 := NB316_315.out
              have hns132_3 := NB317_315.out
              have hns132_4 := NB329_315.out
              have hms132_0 := NB315_314.out
              have hms132_2 := NB315_316.out
              have hms132_3 := NB315_317.out
              have hms132_4 := NB315_329.out
              refine skip_ (w1 := ?_) (by rfl) rfl ?_ ?_
              rotate_left
              ·go_simp
               rfl
              refine hK.out _ _ ?_
              clear hK K
              refine done_ (done_of HT_.out (by kernel_rfl)) ?_
              obtain ⟨hcz133_0, hcz133_1, hcz133_2, hcz133_3, hcz133_4, hcz133_5, hfz133_0, hfz133_1, hfz133_2, hfz133_3, hfz133_4, hfz133_5⟩ := zs6 BK315
              have hnb134 := NB317_314.out
              have hnc134 := NB314_317.out
              have hnb135 := NB317_316.out
              have hnc135 := NB316_317.out
              have hnb136 := NB317_329.out
              have hnc136 := NB329_317.out
              obtain ⟨hcz137_0, hcz137_1, hcz137_2, hcz137_3, hcz137_4, hcz137_5, hfz137_0, hfz137_1, hfz137_2, hfz137_3, hfz137_4, hfz137_5⟩ := zs6 BK317
              try go_wp2
              refine bodyPost_ret (results_cell_row rfl _ _ gb317 29 #[.bool true, .int .i64 t334, .int .i64 t335, .int .i64 0, .int .i64 x9_2, .int .i64 a2_5] (0, 0) _ rfl (by (with_reducible repeat (first | refine blk_drewN ?_ _ | refine blk_drew ?_ | refine blk_alloc ?_ _)); refine blk_put (cs := #[.bool true, .int .i64 t334, .int .i64 t335, .int .i64 0, .int .i64 x9_2, .int .i64 0]) ?_ 5 _ rfl; (with_reducible repeat (first | refine blk_drewN ?_ _ | refine blk_drew ?_ | refine blk_alloc ?_ _)); refine blk_put (cs := #[.bool true, .int .i64 t334, .int .i64 t335, .int .i64 0, .int .i64 0, .int .i64 0]) ?_ 4 _ rfl; (with_reducible repeat (first | refine blk_drewN ?_ _ | refine blk_drew ?_ | refine blk_alloc ?_ _)); refine blk_put (cs := #[.bool true, .int .i64 t334, .int .i64 t335, .int .i64 0, .int .i64 0, .int .i64 0]) ?_ 3 _ rfl; (with_reducible repeat (first | refine blk_drewN ?_ _ | refine blk_drew ?_ | refine blk_alloc ?_ _)); refine blk_put (cs := #[.bool true, .int .i64 t334, .int .i64 0, .int .i64 0, .int .i64 0, .int .i64 0]) ?_ 2 _ rfl; (with_reducible repeat (first | refine blk_drewN ?_ _ | refine blk_drew ?_ | refine blk_alloc ?_ _)); refine blk_put (cs := #[.bool true, .int .i64 0, .int .i64 0, .int .i64 0, .int .i64 0, .int .i64 0]) ?_ 1 _ rfl; (with_reducible repeat (first | refine blk_drewN ?_ _ | refine blk_drew ?_ | refine blk_alloc ?_ _)); refine blk_put (cs := #[.bool false, .int .i64 0, .int .i64 0, .int .i64 0, .int .i64 0, .int .i64 0]) ?_ 0 _ rfl; (with_reducible repeat (first | refine blk_drewN ?_ _ | refine blk_drew ?_ | refine blk_alloc ?_ _)); refine blk_far ?_ NB317_315.out _; (with_reducible repeat (first | refine blk_drewN ?_ _ | refine blk_drew ?_ | refine blk_alloc ?_ _)); refine blk_far ?_ NB317_315.out _; (with_reducible repeat (first | refine blk_drewN ?_ _ | refine blk_drew ?_ | refine blk_alloc ?_ _)); refine blk_far ?_ NB317_315.out _; (with_reducible repeat (first | refine blk_drewN ?_ _ | refine blk_drew ?_ | refine blk_alloc ?_ _)); refine blk_far ?_ NB317_315.out _; (with_reducible repeat (first | refine blk_drewN ?_ _ | refine blk_drew ?_ | refine blk_alloc ?_ _)); refine blk_far ?_ NB317_315.out _; (with_reducible repeat (first | refine blk_drewN ?_ _ | refine blk_drew ?_ | refine blk_alloc ?_ _)); exact BK317.out) Try.underlying29 rfl (by kernel_rfl)) rfl ?_
              exact ⟨by first | rfl | (simp [errW_none, errW_some] <;> rfl) | (simp [*, errW_none, errW_some] <;> rfl), by repeat (first | (with_reducible first | exact HB.out | apply below_alloc | apply pw_below_drewN | apply below_drew1 | refine below_set ?_ GE314.out | refine below_set ?_ GE315.out | refine below_set ?_ GE316.out | refine below_set ?_ GE317.out | refine below_set ?_ GE329.out) | exact HB.out)⟩
             ·replace c114 := Bool.eq_false_iff.mpr c114
              subst c114
              have H1 : ((spec_l2least.f (wrap64 (a2_5 + 1)) 1000000000).bind fun t336 => ((spec_Read.f k2 a0_0 a0_1 a0_2 a0_3 a0_4 a2_1 a2_2 ((rd_T37 l1 x9_2).f1)).bind fun bt338 => (some (true, bt338.1, bt338.2, 0, x9_2, t336)))) = some (r1, r2, r3, r4, r5, r6) := by rw [if_neg (show ¬ (false = true) by decide)] at H; exact H
              clear H
              have H := H1
              clear H1
              replace H := Option.bind_eq_some_iff.mp H
              obtain ⟨t336, A1380, H⟩ := H
              replace H : ((spec_Read.f k2 a0_0 a0_1 a0_2 a0_3 a0_4 a2_1 a2_2 ((rd_T37 l1 x9_2).f1)).bind fun bt338 => (some (true, bt338.1, bt338.2, 0, x9_2, t336))) = some (r1, r2, r3, r4, r5, r6) := H
              have A138 := Aside0.mk A1380
              clear A1380
              replace H := Option.bind_eq_some_iff.mp H
              obtain ⟨⟨t338, t339⟩, A1390, H⟩ := H
              replace H : (some (true, t338, t339, 0, x9_2, t336)) = some (r1, r2, r3, r4, r5, r6) := H
              have A139 := Aside0.mk A1390
              clear A1390
              simp only [Option.some.injEq, Prod.mk.injEq] at H
              obtain ⟨rfl, rfl, rfl, rfl, rfl, rfl⟩ := H
              try go_wp2
              have n0_ := Aside0.mk (blk_drew BK314.out)
              have n1_ := Aside0.mk (blk_drew BK315.out)
              have n2_ := Aside0.mk (blk_drew BK316.out)
              have n3_ := Aside0.mk (blk_drew BK317.out)
              have n4_ := Aside0.mk (below_drew1 HB.out)
              clear BK314 BK315 BK316 BK317 HB
              have BK314 := n0_
              have BK315 := n1_
              have BK316 := n2_
              have BK317 := n3_
              have HB := n4_
              clear n0_ n1_ n2_ n3_ n4_
              have p327 : 0 ≤ (x9_2 : Int) := of_decide_eq_true (by first | (with_reducible assumption) | assumption)
              have q327 : x9_2 < (l1.length : Int) := of_decide_eq_true (by first | (with_reducible assumption) | assumption)
              obtain ⟨ad327, e327, hx327_0, hx327_1⟩ := at_T37 HR1.out x9_2 p327 q327
              have hw327_1 := hx327_1
              have hw327_0 := hx327_0
              cases e327
              replace hx327_0 := (HB.out.cell (World.block_lt_of_cell? w _ hx327_0)).trans hx327_0
              replace hx327_1 := (HB.out.cell (World.block_lt_of_cell? w _ hx327_1)).trans hx327_1
              replace p327 := eq_true p327
              replace q327 := eq_true q327
              have p328 : 0 ≤ (x9_2 : Int) := of_decide_eq_true (by first | (with_reducible assumption) | assumption)
              have q328 : x9_2 < (l1.length : Int) := of_decide_eq_true (by first | (with_reducible assumption) | assumption)
              obtain ⟨ad328, e328, hx328_0, hx328_1⟩ := at_T37 HR1.out x9_2 p328 q328
              have hw328_1 := hx328_1
              have hw328_0 := hx328_0
              obtain rfl : ad327 = ad328 := (by injection e328)
              replace hx328_0 := (HB.out.cell (World.block_lt_of_cell? w _ hx328_0)).trans hx328_0
              replace hx328_1 := (HB.out.cell (World.block_lt_of_cell? w _ hx328_1)).trans hx328_1
              replace p328 := eq_true p328
              replace q328 := eq_true q328
              refine start_ (n := 19) (S := fun w' => w'.cell? ⟨gb314, 0, none⟩ = some (.int .i64 a0_0) ∧ w'.cell? ⟨gb314, 1, none⟩ = some (.int .i64 a0_1) ∧ w'.cell? ⟨gb314, 2, none⟩ = some (.int .i64 a0_2) ∧ w'.cell? ⟨gb314, 3, none⟩ = some (.int .i64 a0_3) ∧ w'.cell? ⟨gb314, 4, none⟩ = some (.int .i64 a0_4) ∧ w'.cell? (ad327.add ((x9_2).toNat * 2)) = some (.int .i64 ((rd_T37 l1 x9_2).f0)) ∧ w'.cell? ⟨(ad327.add ((x9_2).toNat * 2)).block, (ad327.add ((x9_2).toNat * 2)).off + 1, none⟩ = some (.int .i64 ((rd_T37 l1 x9_2).f1)) ∧ w'.cell? (ad327.add ((x9_2).toNat * 2)) = some (.int .i64 ((rd_T37 l1 x9_2).f0)) ∧ w'.cell? ⟨(ad327.add ((x9_2).toNat * 2)).block, (ad327.add ((x9_2).toNat * 2)).off + 1, none⟩ = some (.int .i64 ((rd_T37 l1 x9_2).f1))) (ds := []) #[false, false, false, false, false, false, false, false, false, false, false, false, false, false, false, false, false, false, false] (by kernel_rfl) rfl rfl ⟨zc BK314 0, zc BK314 1, zc BK314 2, zc BK314 3, zc BK314 4, (zf HB hw327_0), (zf HB hw327_1), (zf HB hw328_0), (zf HB hw328_1)⟩ (fun hHeld => ?_); refine with_tabW spec_Do.tab19 spec_Do.bits19 (fun HT_ HW_ => ?_)
              generalize wr.drew = w140 at BK314 BK315 BK316 BK317 HB hx327_0 hx327_1 hx328_0 hx328_1 hHeld ⊢
              refine zp 0 72 (zm 19 1) HT_ ?_
              refine zp 1 73 (zm 19 3) HT_ ?_
              refine zp 2 74 (zm 19 7) HT_ ?_
              refine zp 3 75 (zm 19 15) HT_ ?_
              refine zp 5 77 (zm 19 47) HT_ ?_
              refine zp 8 80 (zm 19 303) HT_ ?_
              refine zp 9 81 (zm 19 815) HT_ ?_
              refine zp 10 82 (zm 19 1839) HT_ ?_
              refine zp 11 83 (zm 19 3887) HT_ ?_
              refine zp 13 85 (zm 19 12079) HT_ ?_
              refine zt 4 76 (zm 19 12095) HT_ HW_ hHeld ?_
              refine zt 6 78 (zm 19 12159) HT_ HW_ hHeld ?_
              refine zp 7 79 (zm 19 12287) HT_ ?_
              refine zt 12 84 (zm 19 16383) HT_ HW_ hHeld ?_
              refine zt 14 86 (zm 19 32767) HT_ HW_ hHeld ?_
              refine zp 15 87 (zm 19 65535) HT_ ?_
              refine zp 16 88 (zm 19 131071) HT_ ?_
              refine zo 17 (some 12) (zm 19 262143) HT_ (fun K hK => ?_)
              refine box_step ?hg (N := 12) ?hd (cs := #[.int .i64 0, .int .i64 0]) (t := 27) ?hr ?_; (case hd => rfl); (case hg => rfl); (case hr => first | (go_simp; done) | (go_simp; rfl))
              intro gb329 hg w141 hbox hb
              have BK329 := Aside0.mk (hbox)
              have GW329 := zge HB hg
              have GE329 := GW329
              have NB314_329 := zl BK314 hg
              have NB329_314 := zg BK314 hg
              have NB315_329 := zl BK315 hg
              have NB329_315 := zg BK315 hg
              have NB316_329 := zl BK316 hg
              have NB329_316 := zg BK316 hg
              have NB317_329 := zl BK317 hg
              have NB329_317 := zg BK317 hg
              replace BK314 := zb BK314 hb
              replace BK315 := zb BK315 hb
              replace BK316 := zb BK316 hb
              replace BK317 := zb BK317 hb
              replace HB := zB HB hb
              clear hb hbox hg
              refine hK.out _ _ ⟨zc BK314 0, zc BK314 1, zc BK314 2, zc BK314 3, zc BK314 4, (zf HB hw327_0), (zf HB hw327_1), (zf HB hw328_0), (zf HB hw328_1)⟩ (fun hHeld => ?_)
              clear hK K
              refine zn 12 ?_
              refine zo 18 (none) (zm 19 524287) HT_ (fun K hK => ?_)
              have hs142 : w141.cell? ⟨gb329, 0, none⟩ = some (.int .i64 0) := zc BK329 0
              have hfs142 := blk_frozen BK329.out 0
              have hns142_0 := NB314_329.out
              have hns142_1 := NB315_329.out
              have hns142_2 := NB316_329.out
              have hns142_3 := NB317_329.out
              have hms142_0 := NB329_314.out
              have hms142_1 := NB329_315.out
              have hms142_2 := NB329_316.out
              have hms142_3 := NB329_317.out
              have hs143 : w141.cell? ⟨gb329, 1, none⟩ = some (.int .i64 0) := zc BK329 1
              have hfs143 := blk_frozen BK329.out 1
              have hns143_0 := NB314_329.out
              have hns143_1 := NB315_329.out
              have hns143_2 := NB316_329.out
              have hns143_3 := NB317_329.out
              have hms143_0 := NB329_314.out
              have hms143_1 := NB329_315.out
              have hms143_2 := NB329_316.out
              have hms143_3 := NB329_317.out
              refine skip_ (w1 := ?_) (by rfl) rfl ?_ ?_
              rotate_left
              ·go_simp
               rfl
              refine hK.out _ _ ⟨((cell_far (p := ⟨gb329, _, none⟩) NB314_329.out _).trans (((cell_far (p := ⟨gb329, _, none⟩) NB314_329.out _).trans (hHeld.1)))), ((cell_far (p := ⟨gb329, _, none⟩) NB314_329.out _).trans (((cell_far (p := ⟨gb329, _, none⟩) NB314_329.out _).trans (hHeld.2.1)))), ((cell_far (p := ⟨gb329, _, none⟩) NB314_329.out _).trans (((cell_far (p := ⟨gb329, _, none⟩) NB314_329.out _).trans (hHeld.2.2.1)))), ((cell_far (p := ⟨gb329, _, none⟩) NB314_329.out _).trans (((cell_far (p := ⟨gb329, _, none⟩) NB314_329.out _).trans (hHeld.2.2.2.1)))), ((cell_far (p := ⟨gb329, _, none⟩) NB314_329.out _).trans (((cell_far (p := ⟨gb329, _, none⟩) NB314_329.out _).trans (hHeld.2.2.2.2.1)))), ((cell_far (p := ⟨gb329, _, none⟩) (by first | exact Nat.ne_of_lt (Nat.lt_of_lt_of_le (by have := World.block_lt_of_cell? _ _ hw327_0; first | rwa [add_block] at this | exact this) GW329.out) | (rw [add_block]; exact Nat.ne_of_lt (Nat.lt_of_lt_of_le (by have := World.block_lt_of_cell? _ _ hw327_0; first | rwa [add_block] at this | exact this) GW329.out)) | (show (Addr.add _ _).block ≠ _; rw [add_block]; exact Nat.ne_of_lt (Nat.lt_of_lt_of_le (by have := World.block_lt_of_cell? _ _ hw327_0; first | rwa [add_block] at this | exact this) GW329.out)) | (dsimp only; exact Nat.ne_of_lt (Nat.lt_of_lt_of_le (by have := World.block_lt_of_cell? _ _ hw327_0; first | rwa [add_block] at this | exact this) GW329.out))) _).trans (((cell_far (p := ⟨gb329, _, none⟩) (by first | exact Nat.ne_of_lt (Nat.lt_of_lt_of_le (by have := World.block_lt_of_cell? _ _ hw327_0; first | rwa [add_block] at this | exact this) GW329.out) | (rw [add_block]; exact Nat.ne_of_lt (Nat.lt_of_lt_of_le (by have := World.block_lt_of_cell? _ _ hw327_0; first | rwa [add_block] at this | exact this) GW329.out)) | (show (Addr.add _ _).block ≠ _; rw [add_block]; exact Nat.ne_of_lt (Nat.lt_of_lt_of_le (by have := World.block_lt_of_cell? _ _ hw327_0; first | rwa [add_block] at this | exact this) GW329.out)) | (dsimp only; exact Nat.ne_of_lt (Nat.lt_of_lt_of_le (by have := World.block_lt_of_cell? _ _ hw327_0; first | rwa [add_block] at this | exact this) GW329.out))) _).trans (hHeld.2.2.2.2.2.1)))), ((cell_far (p := ⟨gb329, _, none⟩) (by first | exact Nat.ne_of_lt (Nat.lt_of_lt_of_le (by have := World.block_lt_of_cell? _ _ hw327_1; first | rwa [add_block] at this | exact this) GW329.out) | (rw [add_block]; exact Nat.ne_of_lt (Nat.lt_of_lt_of_le (by have := World.block_lt_of_cell? _ _ hw327_1; first | rwa [add_block] at this | exact this) GW329.out)) | (show (Addr.add _ _).block ≠ _; rw [add_block]; exact Nat.ne_of_lt (Nat.lt_of_lt_of_le (by have := World.block_lt_of_cell? _ _ hw327_1; first | rwa [add_block] at this | exact this) GW329.out)) | (dsimp only; exact Nat.ne_of_lt (Nat.lt_of_lt_of_le (by have := World.block_lt_of_cell? _ _ hw327_1; first | rwa [add_block] at this | exact this) GW329.out))) _).trans (((cell_far (p := ⟨gb329, _, none⟩) (by first | exact Nat.ne_of_lt (Nat.lt_of_lt_of_le (by have := World.block_lt_of_cell? _ _ hw327_1; first | rwa [add_block] at this | exact this) GW329.out) | (rw [add_block]; exact Nat.ne_of_lt (Nat.lt_of_lt_of_le (by have := World.block_lt_of_cell? _ _ hw327_1; first | rwa [add_block] at this | exact this) GW329.out)) | (show (Addr.add _ _).block ≠ _; rw [add_block]; exact Nat.ne_of_lt (Nat.lt_of_lt_of_le (by have := World.block_lt_of_cell? _ _ hw327_1; first | rwa [add_block] at this | exact this) GW329.out)) | (dsimp only; exact Nat.ne_of_lt (Nat.lt_of_lt_of_le (by have := World.block_lt_of_cell? _ _ hw327_1; first | rwa [add_block] at this | exact this) GW329.out))) _).trans (hHeld.2.2.2.2.2.2.1)))), ((cell_far (p := ⟨gb329, _, none⟩) (by first | exact Nat.ne_of_lt (Nat.lt_of_lt_of_le (by have := World.block_lt_of_cell? _ _ hw328_0; first | rwa [add_block] at this | exact this) GW329.out) | (rw [add_block]; exact Nat.ne_of_lt (Nat.lt_of_lt_of_le (by have := World.block_lt_of_cell? _ _ hw328_0; first | rwa [add_block] at this | exact this) GW329.out)) | (show (Addr.add _ _).block ≠ _; rw [add_block]; exact Nat.ne_of_lt (Nat.lt_of_lt_of_le (by have := World.block_lt_of_cell? _ _ hw328_0; first | rwa [add_block] at this | exact this) GW329.out)) | (dsimp only; exact Nat.ne_of_lt (Nat.lt_of_lt_of_le (by have := World.block_lt_of_cell? _ _ hw328_0; first | rwa [add_block] at this | exact this) GW329.out))) _).trans (((cell_far (p := ⟨gb329, _, none⟩) (by first | exact Nat.ne_of_lt (Nat.lt_of_lt_of_le (by have := World.block_lt_of_cell? _ _ hw328_0; first | rwa [add_block] at this | exact this) GW329.out) | (rw [add_block]; exact Nat.ne_of_lt (Nat.lt_of_lt_of_le (by have := World.block_lt_of_cell? _ _ hw328_0; first | rwa [add_block] at this | exact this) GW329.out)) | (show (Addr.add _ _).block ≠ _; rw [add_block]; exact Nat.ne_of_lt (Nat.lt_of_lt_of_le (by have := World.block_lt_of_cell? _ _ hw328_0; first | rwa [add_block] at this | exact this) GW329.out)) | (dsimp only; exact Nat.ne_of_lt (Nat.lt_of_lt_of_le (by have := World.block_lt_of_cell? _ _ hw328_0; first | rwa [add_block] at this | exact this) GW329.out))) _).trans (hHeld.2.2.2.2.2.2.2.1)))), ((cell_far (p := ⟨gb329, _, none⟩) (by first | exact Nat.ne_of_lt (Nat.lt_of_lt_of_le (by have := World.block_lt_of_cell? _ _ hw328_1; first | rwa [add_block] at this | exact this) GW329.out) | (rw [add_block]; exact Nat.ne_of_lt (Nat.lt_of_lt_of_le (by have := World.block_lt_of_cell? _ _ hw328_1; first | rwa [add_block] at this | exact this) GW329.out)) | (show (Addr.add _ _).block ≠ _; rw [add_block]; exact Nat.ne_of_lt (Nat.lt_of_lt_of_le (by have := World.block_lt_of_cell? _ _ hw328_1; first | rwa [add_block] at this | exact this) GW329.out)) | (dsimp only; exact Nat.ne_of_lt (Nat.lt_of_lt_of_le (by have := World.block_lt_of_cell? _ _ hw328_1; first | rwa [add_block] at this | exact this) GW329.out))) _).trans (((cell_far (p := ⟨gb329, _, none⟩) (by first | exact Nat.ne_of_lt (Nat.lt_of_lt_of_le (by have := World.block_lt_of_cell? _ _ hw328_1; first | rwa [add_block] at this | exact this) GW329.out) | (rw [add_block]; exact Nat.ne_of_lt (Nat.lt_of_lt_of_le (by have := World.block_lt_of_cell? _ _ hw328_1; first | rwa [add_block] at this | exact this) GW329.out)) | (show (Addr.add _ _).block ≠ _; rw [add_block]; exact Nat.ne_of_lt (Nat.lt_of_lt_of_le (by have := World.block_lt_of_cell? _ _ hw328_1; first | rwa [add_block] at this | exact this) GW329.out)) | (dsimp only; exact Nat.ne_of_lt (Nat.lt_of_lt_of_le (by have := World.block_lt_of_cell? _ _ hw328_1; first | rwa [add_block] at this | exact this) GW329.out))) _).trans (hHeld.2.2.2.2.2.2.2.2))))⟩ (fun hHeld => ?_)
              clear hK K
              refine done_ (done_of HT_.out (by kernel_rfl)) ?_
              have hnb144 := NB315_314.out
              have hnc144 := NB314_315.out
              have hnb145 := NB315_316.out
              have hnc145 := NB316_315.out
              have hnb146 := NB315_317.out
              have hnc146 := NB317_315.out
              have hnb147 := NB315_329.out
              have hnc147 := NB329_315.out
              obtain ⟨hcz148_0, hcz148_1, hcz148_2, hcz148_3, hcz148_4, hcz148_5, hfz148_0, hfz148_1, hfz148_2, hfz148_3, hfz148_4, hfz148_5⟩ := zs6 BK315
              try go_wp2
              have n0_ : Aside0 (((w141.setCell ⟨gb329, 0, none⟩ (.int .i64 (wrap64 (((rd_T37 l1 x9_2).f1) - a0_2)))).setCell ⟨gb329, 1, none⟩ (.int .i64 (wrap64 (((rd_T37 l1 x9_2).f1) + a0_2)))).heap[gb314]? = some (.cells #[.int .i64 a0_0, .int .i64 a0_1, .int .i64 a0_2, .int .i64 a0_3, .int .i64 a0_4] 24 (0, 0))) := ⟨by (with_reducible repeat (first | refine blk_drewN ?_ _ | refine blk_drew ?_ | refine blk_alloc ?_ _)); refine blk_far ?_ NB314_329.out _; (with_reducible repeat (first | refine blk_drewN ?_ _ | refine blk_drew ?_ | refine blk_alloc ?_ _)); refine blk_far ?_ NB314_329.out _; (with_reducible repeat (first | refine blk_drewN ?_ _ | refine blk_drew ?_ | refine blk_alloc ?_ _)); exact BK314.out⟩
              have n1_ : Aside0 (((w141.setCell ⟨gb329, 0, none⟩ (.int .i64 (wrap64 (((rd_T37 l1 x9_2).f1) - a0_2)))).setCell ⟨gb329, 1, none⟩ (.int .i64 (wrap64 (((rd_T37 l1 x9_2).f1) + a0_2)))).heap[gb315]? = some (.cells #[.bool true, .int .i64 a2_1, .int .i64 a2_2, .int .i64 a2_3, .int .i64 a2_4, .int .i64 a2_5] 29 (0, 0))) := ⟨by (with_reducible repeat (first | refine blk_drewN ?_ _ | refine blk_drew ?_ | refine blk_alloc ?_ _)); refine blk_far ?_ NB315_329.out _; (with_reducible repeat (first | refine blk_drewN ?_ _ | refine blk_drew ?_ | refine blk_alloc ?_ _)); refine blk_far ?_ NB315_329.out _; (with_reducible repeat (first | refine blk_drewN ?_ _ | refine blk_drew ?_ | refine blk_alloc ?_ _)); exact BK315.out⟩
              have n2_ : Aside0 (((w141.setCell ⟨gb329, 0, none⟩ (.int .i64 (wrap64 (((rd_T37 l1 x9_2).f1) - a0_2)))).setCell ⟨gb329, 1, none⟩ (.int .i64 (wrap64 (((rd_T37 l1 x9_2).f1) + a0_2)))).heap[gb316]? = some (.cells #[.int .i64 a3_0, .int .i64 a3_1] 34 (0, 0))) := ⟨by (with_reducible repeat (first | refine blk_drewN ?_ _ | refine blk_drew ?_ | refine blk_alloc ?_ _)); refine blk_far ?_ NB316_329.out _; (with_reducible repeat (first | refine blk_drewN ?_ _ | refine blk_drew ?_ | refine blk_alloc ?_ _)); refine blk_far ?_ NB316_329.out _; (with_reducible repeat (first | refine blk_drewN ?_ _ | refine blk_drew ?_ | refine blk_alloc ?_ _)); exact BK316.out⟩
              have n3_ : Aside0 (((w141.setCell ⟨gb329, 0, none⟩ (.int .i64 (wrap64 (((rd_T37 l1 x9_2).f1) - a0_2)))).setCell ⟨gb329, 1, none⟩ (.int .i64 (wrap64 (((rd_T37 l1 x9_2).f1) + a0_2)))).heap[gb317]? = some (.cells #[.bool false, .int .i64 0, .int .i64 0, .int .i64 0, .int .i64 0, .int .i64 0] 29 (0, 0))) := ⟨by (with_reducible repeat (first | refine blk_drewN ?_ _ | refine blk_drew ?_ | refine blk_alloc ?_ _)); refine blk_far ?_ NB317_329.out _; (with_reducible repeat (first | refine blk_drewN ?_ _ | refine blk_drew ?_ | refine blk_alloc ?_ _)); refine blk_far ?_ NB317_329.out _; (with_reducible repeat (first | refine blk_drewN ?_ _ | refine blk_drew ?_ | refine blk_alloc ?_ _)); exact BK317.out⟩
              have n4_ : Aside0 (((w141.setCell ⟨gb329, 0, none⟩ (.int .i64 (wrap64 (((rd_T37 l1 x9_2).f1) - a0_2)))).setCell ⟨gb329, 1, none⟩ (.int .i64 (wrap64 (((rd_T37 l1 x9_2).f1) + a0_2)))).heap[gb329]? = some (.cells #[.int .i64 (wrap64 (((rd_T37 l1 x9_2).f1) - a0_2)), .int .i64 (wrap64 (((rd_T37 l1 x9_2).f1) + a0_2))] 27 (0, 0))) := ⟨by (with_reducible repeat (first | refine blk_drewN ?_ _ | refine blk_drew ?_ | refine blk_alloc ?_ _)); refine blk_put (cs := #[.int .i64 (wrap64 (((rd_T37 l1 x9_2).f1) - a0_2)), .int .i64 0]) ?_ 1 _ rfl; (with_reducible repeat (first | refine blk_drewN ?_ _ | refine blk_drew ?_ | refine blk_alloc ?_ _)); refine blk_put (cs := #[.int .i64 0, .int .i64 0]) ?_ 0 _ rfl; (with_reducible repeat (first | refine blk_drewN ?_ _ | refine blk_drew ?_ | refine blk_alloc ?_ _)); exact BK329.out⟩
              have n5_ : Aside0 (Below w.heap.size w ((w141.setCell ⟨gb329, 0, none⟩ (.int .i64 (wrap64 (((rd_T37 l1 x9_2).f1) - a0_2)))).setCell ⟨gb329, 1, none⟩ (.int .i64 (wrap64 (((rd_T37 l1 x9_2).f1) + a0_2))))) := ⟨by repeat (first | (with_reducible first | exact HB.out | apply below_alloc | apply pw_below_drewN | apply below_drew1 | refine below_set ?_ GE314.out | refine below_set ?_ GE315.out | refine below_set ?_ GE316.out | refine below_set ?_ GE317.out | refine below_set ?_ GE329.out) | exact HB.out)⟩
              (try clear BK314)
              (try clear BK315)
              (try clear BK316)
              (try clear BK317)
              (try clear BK329)
              (try clear HB)
              generalize ((w141.setCell ⟨gb329, 0, none⟩ (.int .i64 (wrap64 (((rd_T37 l1 x9_2).f1) - a0_2)))).setCell ⟨gb329, 1, none⟩ (.int .i64 (wrap64 (((rd_T37 l1 x9_2).f1) + a0_2)))) = w149 at n0_ n1_ n2_ n3_ n4_ n5_ ⊢
              have BK314 := n0_
              have BK315 := n1_
              have BK316 := n2_
              have BK317 := n3_
              have BK329 := n4_
              have HB := n5_
              clear n0_ n1_ n2_ n3_ n4_ n5_
              have n0_ := Aside0.mk (blk_drew BK314.out)
              have n1_ := Aside0.mk (blk_drew BK315.out)
              have n2_ := Aside0.mk (blk_drew BK316.out)
              have n3_ := Aside0.mk (blk_drew BK317.out)
              have n4_ := Aside0.mk (blk_drew BK329.out)
              have n5_ := Aside0.mk (below_drew1 HB.out)
              clear BK314 BK315 BK316 BK317 BK329 HB
              have BK314 := n0_
              have BK315 := n1_
              have BK316 := n2_
              have BK317 := n3_
              have BK329 := n4_
              have HB := n5_
              clear n0_ n1_ n2_ n3_ n4_ n5_
              refine start_ (n := 6) (S := fun w' => w'.cell? ⟨gb315, 0, none⟩ = some (.bool true) ∧ w'.cell? ⟨gb315, 1, none⟩ = some (.int .i64 a2_1) ∧ w'.cell? ⟨gb315, 2, none⟩ = some (.int .i64 a2_2) ∧ w'.cell? ⟨gb315, 3, none⟩ = some (.int .i64 a2_3) ∧ w'.cell? ⟨gb315, 4, none⟩ = some (.int .i64 a2_4) ∧ w'.cell? ⟨gb315, 5, none⟩ = some (.int .i64 a2_5) ∧ w'.cell? ⟨gb329, 0, none⟩ = some (.int .i64 (wrap64 (((rd_T37 l1 x9_2).f1) - a0_2))) ∧ w'.cell? ⟨gb329, 1, none⟩ = some (.int .i64 (wrap64 (((rd_T37 l1 x9_2).f1) + a0_2)))) (ds := []) #[false, false, false, false, false, false] (by kernel_rfl) rfl rfl ⟨zc BK315 0, zc BK315 1, zc BK315 2, zc BK315 3, zc BK315 4, zc BK315 5, zc BK329 0, zc BK329 1⟩ (fun hHeld => ?_)
              generalize w149.drew = w150 at BK314 BK315 BK316 BK317 BK329 HB hHeld ⊢
              refine pure_ (i := 0) (N := some 95) (v := ?_) (a' := ?_) #[true, false, false, false, false, false] rfl rfl (by kernel_rfl) (fun _ _ _ h => h) (Or.inl ⟨by rfl, ?_⟩) ?_ ?_
              rotate_left
              ·intro w'
               go_simp
               with_reducible rfl
              rotate_left
              ·simp only [Act.put, List.setIfInBounds_toArray, List.set_cons_zero, List.set_cons_succ, i64_w, i32_w]
               rfl
              refine take_ (i := 1) (N := some 96) (v := ?_) (a' := ?_) #[true, true, false, false, false, false] rfl rfl (by kernel_rfl) (fun _ _ _ h => h) (Or.inl ⟨by rfl, ?_⟩) hHeld ?_ ?_
              rotate_left
              ·rintro w' ⟨s0, s1, s2, s3, s4, s5, s6, s7⟩
               go_simp
               with_reducible rfl
              rotate_left
              ·simp only [Act.put, List.setIfInBounds_toArray, List.set_cons_zero, List.set_cons_succ, i64_w, i32_w]
               rfl
              refine take_ (i := 2) (N := some 97) (v := ?_) (a' := ?_) #[true, true, true, false, false, false] rfl rfl (by kernel_rfl) (fun _ _ _ h => h) (Or.inl ⟨by rfl, ?_⟩) hHeld ?_ ?_
              rotate_left
              ·rintro w' ⟨s0, s1, s2, s3, s4, s5, s6, s7⟩
               go_simp
               with_reducible rfl
              rotate_left
              ·simp only [Act.put, List.setIfInBounds_toArray, List.set_cons_zero, List.set_cons_succ, i64_w, i32_w]
               rfl
              refine one_ (i := 3) (N := some 98) #[true, true, true, true, false, false] rfl rfl (by kernel_rfl) (by decide) (fun K hK => ?_)
              refine zG Try.func71 #[.agg #[.int .i64 (wrap64 (((rd_T37 l1 x9_2).f1) - a0_2)), .int .i64 (wrap64 (((rd_T37 l1 x9_2).f1) + a0_2))]] ?_
              with_reducible refine (spec_l1clip.calls k2 (wrap64 (((rd_T37 l1 x9_2).f1) - a0_2)) (wrap64 (((rd_T37 l1 x9_2).f1) + a0_2)) t330 t331 _ A112.out).mono ?_
              rintro e w151 ⟨rfl, hb⟩
              refine ⟨_, rfl, ?_⟩
              replace BK314 := zb BK314 hb
              replace BK315 := zb BK315 hb
              replace BK316 := zb BK316 hb
              replace BK317 := zb BK317 hb
              replace BK329 := zb BK329 hb
              replace HB := zB HB hb
              (try clear hb)
              refine hK.out _ _ ⟨zc BK315 0, zc BK315 1, zc BK315 2, zc BK315 3, zc BK315 4, zc BK315 5, zc BK329 0, zc BK329 1⟩ (fun hHeld => ?_)
              clear hK K
              refine zn 98 ?_
              refine one_ (i := 4) (N := some 99) #[true, true, true, true, true, false] rfl rfl (by kernel_rfl) (by decide) (fun K hK => ?_)
              refine zG Try.func72 #[.agg #[.int .i64 a2_1, .int .i64 a2_2], .agg #[.int .i64 t330, .int .i64 t331]] ?_
              with_reducible refine (spec_Meets.calls a2_1 a2_2 t330 t331 false _ A113.out).mono ?_
              rintro e w152 ⟨rfl, hb⟩
              refine ⟨_, rfl, ?_⟩
              replace BK314 := zb BK314 hb
              replace BK315 := zb BK315 hb
              replace BK316 := zb BK316 hb
              replace BK317 := zb BK317 hb
              replace BK329 := zb BK329 hb
              replace HB := zB HB hb
              (try clear hb)
              refine hK.out _ _ ⟨zc BK315 0, zc BK315 1, zc BK315 2, zc BK315 3, zc BK315 4, zc BK315 5, zc BK329 0, zc BK329 1⟩ (fun hHeld => ?_)
              clear hK K
              refine zn 99 ?_
              refine pure_ (i := 5) (N := some 100) (v := ?_) (a' := ?_) #[true, true, true, true, true, true] rfl rfl (by kernel_rfl) (fun _ _ _ h => h) (Or.inl ⟨by rfl, ?_⟩) ?_ ?_
              rotate_left
              ·intro w'
               go_simp
               with_reducible rfl
              rotate_left
              ·simp only [Act.put, List.setIfInBounds_toArray, List.set_cons_zero, List.set_cons_succ, i64_w, i32_w]
               rfl
              refine done_ (by kernel_rfl) ?_
              obtain ⟨hcz153_0, hcz153_1, hcz153_2, hcz153_3, hcz153_4, hcz153_5, hfz153_0, hfz153_1, hfz153_2, hfz153_3, hfz153_4, hfz153_5⟩ := zs6 BK315
              try go_wp2_with (first | ((with_reducible refine gate_callee (f := 69) rfl ?_); refine zL (some 104) Try.func69 #[.int .i64 (wrap64 (a2_5 + 1)), .int .i64 1000000000] ?_; (with_reducible refine (spec_l2least.calls (wrap64 (a2_5 + 1)) 1000000000 t336 _ A138.out).mono ?_); rintro e w' ⟨rfl, ⟨nd, rfl⟩⟩; refine ⟨_, rfl, ?_⟩; (try (rw [drewN_self w152]; generalize hq_ : World.drewN w152 _ = w152; have n0_ : Aside0 (w152.heap[gb314]? = some (.cells #[.int .i64 a0_0, .int .i64 a0_1, .int .i64 a0_2, .int .i64 a0_3, .int .i64 a0_4] 24 (0, 0))) := ⟨by rw [← hq_]; exact (zy BK314)⟩; have n1_ : Aside0 (w152.heap[gb315]? = some (.cells #[.bool true, .int .i64 a2_1, .int .i64 a2_2, .int .i64 a2_3, .int .i64 a2_4, .int .i64 a2_5] 29 (0, 0))) := ⟨by rw [← hq_]; exact (zy BK315)⟩; have n2_ : Aside0 (w152.heap[gb316]? = some (.cells #[.int .i64 a3_0, .int .i64 a3_1] 34 (0, 0))) := ⟨by rw [← hq_]; exact (zy BK316)⟩; have n3_ : Aside0 (w152.heap[gb317]? = some (.cells #[.bool false, .int .i64 0, .int .i64 0, .int .i64 0, .int .i64 0, .int .i64 0] 29 (0, 0))) := ⟨by rw [← hq_]; exact (zy BK317)⟩; have n4_ : Aside0 (w152.heap[gb329]? = some (.cells #[.int .i64 (wrap64 (((rd_T37 l1 x9_2).f1) - a0_2)), .int .i64 (wrap64 (((rd_T37 l1 x9_2).f1) + a0_2))] 27 (0, 0))) := ⟨by rw [← hq_]; exact (zy BK329)⟩; have n5_ : Aside0 (Below w.heap.size w w152) := ⟨by rw [← hq_]; exact (by repeat (first | (with_reducible first | exact HB.out | apply below_alloc | apply pw_below_drewN | apply below_drew1 | refine below_set ?_ GE314.out | refine below_set ?_ GE315.out | refine below_set ?_ GE316.out | refine below_set ?_ GE317.out | refine below_set ?_ GE329.out) | exact HB.out))⟩; clear BK314 BK315 BK316 BK317 BK329 HB hq_; have BK314 := n0_; have BK315 := n1_; have BK316 := n2_; have BK317 := n3_; have BK329 := n4_; have HB := n5_; clear n0_ n1_ n2_ n3_ n4_ n5_)); obtain ⟨hczm10_0, hczm10_1, hczm10_2, hczm10_3, hczm10_4, hfzm10_0, hfzm10_1, hfzm10_2, hfzm10_3, hfzm10_4⟩ := zs5 BK314; obtain ⟨hczm11_0, hczm11_1, hczm11_2, hczm11_3, hczm11_4, hczm11_5, hfzm11_0, hfzm11_1, hfzm11_2, hfzm11_3, hfzm11_4, hfzm11_5⟩ := zs6 BK315; obtain ⟨hczm12_0, hczm12_1, hfzm12_0, hfzm12_1⟩ := zs2 BK316; obtain ⟨hczm13_0, hczm13_1, hczm13_2, hczm13_3, hczm13_4, hczm13_5, hfzm13_0, hfzm13_1, hfzm13_2, hfzm13_3, hfzm13_4, hfzm13_5⟩ := zs6 BK317; obtain ⟨hczm14_0, hczm14_1, hfzm14_0, hfzm14_1⟩ := zs2 BK329))
              have n0_ : Aside0 ((w152.setCell ⟨gb315, 5, none⟩ (.int .i64 t336)).heap[gb314]? = some (.cells #[.int .i64 a0_0, .int .i64 a0_1, .int .i64 a0_2, .int .i64 a0_3, .int .i64 a0_4] 24 (0, 0))) := ⟨by (with_reducible repeat (first | refine blk_drewN ?_ _ | refine blk_drew ?_ | refine blk_alloc ?_ _)); refine blk_far ?_ NB314_315.out _; (with_reducible repeat (first | refine blk_drewN ?_ _ | refine blk_drew ?_ | refine blk_alloc ?_ _)); exact BK314.out⟩
              have n1_ : Aside0 ((w152.setCell ⟨gb315, 5, none⟩ (.int .i64 t336)).heap[gb315]? = some (.cells #[.bool true, .int .i64 a2_1, .int .i64 a2_2, .int .i64 a2_3, .int .i64 a2_4, .int .i64 t336] 29 (0, 0))) := ⟨by (with_reducible repeat (first | refine blk_drewN ?_ _ | refine blk_drew ?_ | refine blk_alloc ?_ _)); refine blk_put (cs := #[.bool true, .int .i64 a2_1, .int .i64 a2_2, .int .i64 a2_3, .int .i64 a2_4, .int .i64 a2_5]) ?_ 5 _ rfl; (with_reducible repeat (first | refine blk_drewN ?_ _ | refine blk_drew ?_ | refine blk_alloc ?_ _)); exact BK315.out⟩
              have n2_ : Aside0 ((w152.setCell ⟨gb315, 5, none⟩ (.int .i64 t336)).heap[gb316]? = some (.cells #[.int .i64 a3_0, .int .i64 a3_1] 34 (0, 0))) := ⟨by (with_reducible repeat (first | refine blk_drewN ?_ _ | refine blk_drew ?_ | refine blk_alloc ?_ _)); refine blk_far ?_ NB316_315.out _; (with_reducible repeat (first | refine blk_drewN ?_ _ | refine blk_drew ?_ | refine blk_alloc ?_ _)); exact BK316.out⟩
              have n3_ : Aside0 ((w152.setCell ⟨gb315, 5, none⟩ (.int .i64 t336)).heap[gb317]? = some (.cells #[.bool false, .int .i64 0, .int .i64 0, .int .i64 0, .int .i64 0, .int .i64 0] 29 (0, 0))) := ⟨by (with_reducible repeat (first | refine blk_drewN ?_ _ | refine blk_drew ?_ | refine blk_alloc ?_ _)); refine blk_far ?_ NB317_315.out _; (with_reducible repeat (first | refine blk_drewN ?_ _ | refine blk_drew ?_ | refine blk_alloc ?_ _)); exact BK317.out⟩
              have n4_ : Aside0 ((w152.setCell ⟨gb315, 5, none⟩ (.int .i64 t336)).heap[gb329]? = some (.cells #[.int .i64 (wrap64 (((rd_T37 l1 x9_2).f1) - a0_2)), .int .i64 (wrap64 (((rd_T37 l1 x9_2).f1) + a0_2))] 27 (0, 0))) := ⟨by (with_reducible repeat (first | refine blk_drewN ?_ _ | refine blk_drew ?_ | refine blk_alloc ?_ _)); refine blk_far ?_ NB329_315.out _; (with_reducible repeat (first | refine blk_drewN ?_ _ | refine blk_drew ?_ | refine blk_alloc ?_ _)); exact BK329.out⟩
              have n5_ : Aside0 (Below w.heap.size w (w152.setCell ⟨gb315, 5, none⟩ (.int .i64 t336))) := ⟨by repeat (first | (with_reducible first | exact HB.out | apply below_alloc | apply pw_below_drewN | apply below_drew1 | refine below_set ?_ GE314.out | refine below_set ?_ GE315.out | refine below_set ?_ GE316.out | refine below_set ?_ GE317.out | refine below_set ?_ GE329.out) | exact HB.out)⟩
              (try clear BK314)
              (try clear BK315)
              (try clear BK316)
              (try clear BK317)
              (try clear BK329)
              (try clear HB)
              generalize (w152.setCell ⟨gb315, 5, none⟩ (.int .i64 t336)) = w154 at n0_ n1_ n2_ n3_ n4_ n5_ ⊢
              have BK314 := n0_
              have BK315 := n1_
              have BK316 := n2_
              have BK317 := n3_
              have BK329 := n4_
              have HB := n5_
              clear n0_ n1_ n2_ n3_ n4_ n5_
              have n0_ := Aside0.mk (blk_drew BK314.out)
              have n1_ := Aside0.mk (blk_drew BK315.out)
              have n2_ := Aside0.mk (blk_drew BK316.out)
              have n3_ := Aside0.mk (blk_drew BK317.out)
              have n4_ := Aside0.mk (blk_drew BK329.out)
              have n5_ := Aside0.mk (below_drew1 HB.out)
              clear BK314 BK315 BK316 BK317 BK329 HB
              have BK314 := n0_
              have BK315 := n1_
              have BK316 := n2_
              have BK317 := n3_
              have BK329 := n4_
              have HB := n5_
              clear n0_ n1_ n2_ n3_ n4_ n5_
              have p337 : 0 ≤ (x9_2 : Int) := of_decide_eq_true (by first | (with_reducible assumption) | assumption)
              have q337 : x9_2 < (l1.length : Int) := of_decide_eq_true (by first | (with_reducible assumption) | assumption)
              obtain ⟨ad337, e337, hx337_0, hx337_1⟩ := at_T37 HR1.out x9_2 p337 q337
              have hw337_1 := hx337_1
              have hw337_0 := hx337_0
              obtain rfl : ad327 = ad337 := (by injection e337)
              replace hx337_0 := (HB.out.cell (World.block_lt_of_cell? w _ hx337_0)).trans hx337_0
              replace hx337_1 := (HB.out.cell (World.block_lt_of_cell? w _ hx337_1)).trans hx337_1
              replace p337 := eq_true p337
              replace q337 := eq_true q337
              refine start_ (n := 11) (S := fun w' => w'.cell? ⟨gb314, 0, none⟩ = some (.int .i64 a0_0) ∧ w'.cell? ⟨gb314, 1, none⟩ = some (.int .i64 a0_1) ∧ w'.cell? ⟨gb314, 2, none⟩ = some (.int .i64 a0_2) ∧ w'.cell? ⟨gb314, 3, none⟩ = some (.int .i64 a0_3) ∧ w'.cell? ⟨gb314, 4, none⟩ = some (.int .i64 a0_4) ∧ w'.cell? ⟨gb315, 0, none⟩ = some (.bool true) ∧ w'.cell? ⟨gb315, 1, none⟩ = some (.int .i64 a2_1) ∧ w'.cell? ⟨gb315, 2, none⟩ = some (.int .i64 a2_2) ∧ w'.cell? ⟨gb315, 3, none⟩ = some (.int .i64 a2_3) ∧ w'.cell? ⟨gb315, 4, none⟩ = some (.int .i64 a2_4) ∧ w'.cell? ⟨gb315, 5, none⟩ = some (.int .i64 t336) ∧ w'.cell? (ad327.add ((x9_2).toNat * 2)) = some (.int .i64 ((rd_T37 l1 x9_2).f0)) ∧ w'.cell? ⟨(ad327.add ((x9_2).toNat * 2)).block, (ad327.add ((x9_2).toNat * 2)).off + 1, none⟩ = some (.int .i64 ((rd_T37 l1 x9_2).f1))) (ds := [10]) #[false, false, false, false, false, false, false, false, false, false, false] (by kernel_rfl) rfl rfl ⟨zc BK314 0, zc BK314 1, zc BK314 2, zc BK314 3, zc BK314 4, zc BK315 0, zc BK315 1, zc BK315 2, zc BK315 3, zc BK315 4, zc BK315 5, (zf HB hw337_0), (zf HB hw337_1)⟩ (fun hHeld => ?_); refine with_tabW spec_Do.tab24 spec_Do.bits24 (fun HT_ HW_ => ?_)
              generalize w154.drew = w155 at BK314 BK315 BK316 BK317 BK329 HB hx337_0 hx337_1 hHeld ⊢
              refine zp 1 107 (zm 11 2) HT_ ?_
              refine zp 3 109 (zm 11 10) HT_ ?_
              refine zp 4 110 (zm 11 26) HT_ ?_
              refine zp 5 111 (zm 11 58) HT_ ?_
              refine zp 6 112 (zm 11 122) HT_ ?_
              refine zt 0 106 (zm 11 123) HT_ HW_ hHeld ?_
              refine zt 2 108 (zm 11 127) HT_ HW_ hHeld ?_
              refine zt 7 113 (zm 11 255) HT_ HW_ hHeld ?_
              refine zo 8 (some 114) (zm 11 511) HT_ (fun K hK => ?_)
              refine zG Try.func73 #[.agg #[.int .i64 a0_0, .int .i64 a0_1, .int .i64 a0_2, .int .i64 a0_3, .int .i64 a0_4], .agg #[.int .i64 a2_1, .int .i64 a2_2], .int .i64 ((rd_T37 l1 x9_2).f1)] ?_
              with_reducible refine (spec_Read.calls k2 a0_0 a0_1 a0_2 a0_3 a0_4 a2_1 a2_2 ((rd_T37 l1 x9_2).f1) t338 t339 _ A139.out).mono ?_
              rintro e w156 ⟨rfl, hb⟩
              refine ⟨_, rfl, ?_⟩
              replace BK314 := zb BK314 hb
              replace BK315 := zb BK315 hb
              replace BK316 := zb BK316 hb
              replace BK317 := zb BK317 hb
              replace BK329 := zb BK329 hb
              replace HB := zB HB hb
              (try clear hb)
              refine hK.out _ _ ⟨zc BK314 0, zc BK314 1, zc BK314 2, zc BK314 3, zc BK314 4, zc BK315 0, zc BK315 1, zc BK315 2, zc BK315 3, zc BK315 4, zc BK315 5, (zf HB hw337_0), (zf HB hw337_1)⟩ (fun hHeld => ?_)
              clear hK K
              refine zn 114 ?_
              refine zp 9 115 (zm 11 1023) HT_ ?_
              refine last_ (i := 10) (N := none) #[true, true, true, true, true, true, true, true, true, true, true] rfl rfl (one_of HT_.out (by kernel_rfl)) (by decide) (fun K hK => ?_)
              have hs157 : w156.cell? ⟨gb315, 1, none⟩ = some (.int .i64 a2_1) := zc BK315 1
              have hfs157 := blk_frozen BK315.out 1
              have hns157_0 := NB314_315.out
              have hns157_2 := NB316_315.out
              have hns157_3 := NB317_315.out
              have hns157_4 := NB329_315.out
              have hms157_0 := NB315_314.out
              have hms157_2 := NB315_316.out
              have hms157_3 := NB315_317.out
              have hms157_4 := NB315_329.out
              have hs158 : w156.cell? ⟨gb315, 2, none⟩ = some (.int .i64 a2_2) := zc BK315 2
              have hfs158 := blk_frozen BK315.out 2
              have hns158_0 := NB314_315.out
              have hns158_2 := NB316_315.out
              have hns158_3 := NB317_315.out
              have hns158_4 := NB329_315.out
              have hms158_0 := NB315_314.out
              have hms158_2 := NB315_316.out
              have hms158_3 := NB315_317.out
              have hms158_4 := NB315_329.out
              refine skip_ (w1 := ?_) (by rfl) rfl ?_ ?_
              rotate_left
              ·go_simp
               rfl
              refine hK.out _ _ ?_
              clear hK K
              refine done_ (done_of HT_.out (by kernel_rfl)) ?_
              obtain ⟨hcz159_0, hcz159_1, hcz159_2, hcz159_3, hcz159_4, hcz159_5, hfz159_0, hfz159_1, hfz159_2, hfz159_3, hfz159_4, hfz159_5⟩ := zs6 BK315
              have hnb160 := NB317_314.out
              have hnc160 := NB314_317.out
              have hnb161 := NB317_316.out
              have hnc161 := NB316_317.out
              have hnb162 := NB317_329.out
              have hnc162 := NB329_317.out
              obtain ⟨hcz163_0, hcz163_1, hcz163_2, hcz163_3, hcz163_4, hcz163_5, hfz163_0, hfz163_1, hfz163_2, hfz163_3, hfz163_4, hfz163_5⟩ := zs6 BK317
              try go_wp2
              refine bodyPost_ret (results_cell_row rfl _ _ gb317 29 #[.bool true, .int .i64 t338, .int .i64 t339, .int .i64 0, .int .i64 x9_2, .int .i64 t336] (0, 0) _ rfl (by (with_reducible repeat (first | refine blk_drewN ?_ _ | refine blk_drew ?_ | refine blk_alloc ?_ _)); refine blk_put (cs := #[.bool true, .int .i64 t338, .int .i64 t339, .int .i64 0, .int .i64 x9_2, .int .i64 0]) ?_ 5 _ rfl; (with_reducible repeat (first | refine blk_drewN ?_ _ | refine blk_drew ?_ | refine blk_alloc ?_ _)); refine blk_put (cs := #[.bool true, .int .i64 t338, .int .i64 t339, .int .i64 0, .int .i64 0, .int .i64 0]) ?_ 4 _ rfl; (with_reducible repeat (first | refine blk_drewN ?_ _ | refine blk_drew ?_ | refine blk_alloc ?_ _)); refine blk_put (cs := #[.bool true, .int .i64 t338, .int .i64 t339, .int .i64 0, .int .i64 0, .int .i64 0]) ?_ 3 _ rfl; (with_reducible repeat (first | refine blk_drewN ?_ _ | refine blk_drew ?_ | refine blk_alloc ?_ _)); refine blk_put (cs := #[.bool true, .int .i64 t338, .int .i64 0, .int .i64 0, .int .i64 0, .int .i64 0]) ?_ 2 _ rfl; (with_reducible repeat (first | refine blk_drewN ?_ _ | refine blk_drew ?_ | refine blk_alloc ?_ _)); refine blk_put (cs := #[.bool true, .int .i64 0, .int .i64 0, .int .i64 0, .int .i64 0, .int .i64 0]) ?_ 1 _ rfl; (with_reducible repeat (first | refine blk_drewN ?_ _ | refine blk_drew ?_ | refine blk_alloc ?_ _)); refine blk_put (cs := #[.bool false, .int .i64 0, .int .i64 0, .int .i64 0, .int .i64 0, .int .i64 0]) ?_ 0 _ rfl; (with_reducible repeat (first | refine blk_drewN ?_ _ | refine blk_drew ?_ | refine blk_alloc ?_ _)); refine blk_far ?_ NB317_315.out _; (with_reducible repeat (first | refine blk_drewN ?_ _ | refine blk_drew ?_ | refine blk_alloc ?_ _)); refine blk_far ?_ NB317_315.out _; (with_reducible repeat (first | refine blk_drewN ?_ _ | refine blk_drew ?_ | refine blk_alloc ?_ _)); refine blk_far ?_ NB317_315.out _; (with_reducible repeat (first | refine blk_drewN ?_ _ | refine blk_drew ?_ | refine blk_alloc ?_ _)); refine blk_far ?_ NB317_315.out _; (with_reducible repeat (first | refine blk_drewN ?_ _ | refine blk_drew ?_ | refine blk_alloc ?_ _)); refine blk_far ?_ NB317_315.out _; (with_reducible repeat (first | refine blk_drewN ?_ _ | refine blk_drew ?_ | refine blk_alloc ?_ _)); exact BK317.out) Try.underlying29 rfl (by kernel_rfl)) rfl ?_
              exact ⟨by first | rfl | (simp [errW_none, errW_some] <;> rfl) | (simp [*, errW_none, errW_some] <;> rfl), by repeat (first | (with_reducible first | exact HB.out | apply below_alloc | apply pw_below_drewN | apply below_drew1 | refine below_set ?_ GE314.out | refine below_set ?_ GE315.out | refine below_set ?_ GE316.out | refine below_set ?_ GE317.out | refine below_set ?_ GE329.out) | exact HB.out)⟩
            ·replace c111 := Bool.eq_false_iff.mpr c111
             subst c111
             have H1 : ((spec_l1clip.f k2 (wrap64 (((rd_T37 l1 x9_2).f1) - a0_2)) (wrap64 (((rd_T37 l1 x9_2).f1) + a0_2))).bind fun bt340 => (some (true, bt340.1, bt340.2, 0, x9_2, a2_5))) = some (r1, r2, r3, r4, r5, r6) := by rw [if_neg (show ¬ (false = true) by decide)] at H; exact H
             clear H
             have H := H1
             clear H1
             replace H := Option.bind_eq_some_iff.mp H
             obtain ⟨⟨t340, t341⟩, A1640, H⟩ := H
             replace H : (some (true, t340, t341, 0, x9_2, a2_5)) = some (r1, r2, r3, r4, r5, r6) := H
             have A164 := Aside0.mk A1640
             clear A1640
             simp only [Option.some.injEq, Prod.mk.injEq] at H
             obtain ⟨rfl, rfl, rfl, rfl, rfl, rfl⟩ := H
             try go_wp2
             have n0_ := Aside0.mk (blk_drew BK314.out)
             have n1_ := Aside0.mk (blk_drew BK315.out)
             have n2_ := Aside0.mk (blk_drew BK316.out)
             have n3_ := Aside0.mk (blk_drew BK317.out)
             have n4_ := Aside0.mk (below_drew1 HB.out)
             clear BK314 BK315 BK316 BK317 HB
             have BK314 := n0_
             have BK315 := n1_
             have BK316 := n2_
             have BK317 := n3_
             have HB := n4_
             clear n0_ n1_ n2_ n3_ n4_
             have p327 : 0 ≤ (x9_2 : Int) := of_decide_eq_true (by first | (with_reducible assumption) | assumption)
             have q327 : x9_2 < (l1.length : Int) := of_decide_eq_true (by first | (with_reducible assumption) | assumption)
             obtain ⟨ad327, e327, hx327_0, hx327_1⟩ := at_T37 HR1.out x9_2 p327 q327
             have hw327_1 := hx327_1
             have hw327_0 := hx327_0
             cases e327
             replace hx327_0 := (HB.out.cell (World.block_lt_of_cell? w _ hx327_0)).trans hx327_0
             replace hx327_1 := (HB.out.cell (World.block_lt_of_cell? w _ hx327_1)).trans hx327_1
             replace p327 := eq_true p327
             replace q327 := eq_true q327
             have p328 : 0 ≤ (x9_2 : Int) := of_decide_eq_true (by first | (with_reducible assumption) | assumption)
             have q328 : x9_2 < (l1.length : Int) := of_decide_eq_true (by first | (with_reducible assumption) | assumption)
             obtain ⟨ad328, e328, hx328_0, hx328_1⟩ := at_T37 HR1.out x9_2 p328 q328
             have hw328_1 := hx328_1
             have hw328_0 := hx328_0
             obtain rfl : ad327 = ad328 := (by injection e328)
             replace hx328_0 := (HB.out.cell (World.block_lt_of_cell? w _ hx328_0)).trans hx328_0
             replace hx328_1 := (HB.out.cell (World.block_lt_of_cell? w _ hx328_1)).trans hx328_1
             replace p328 := eq_true p328
             replace q328 := eq_true q328
             refine start_ (n := 19) (S := fun w' => w'.cell? ⟨gb314, 0, none⟩ = some (.int .i64 a0_0) ∧ w'.cell? ⟨gb314, 1, none⟩ = some (.int .i64 a0_1) ∧ w'.cell? ⟨gb314, 2, none⟩ = some (.int .i64 a0_2) ∧ w'.cell? ⟨gb314, 3, none⟩ = some (.int .i64 a0_3) ∧ w'.cell? ⟨gb314, 4, none⟩ = some (.int .i64 a0_4) ∧ w'.cell? (ad327.add ((x9_2).toNat * 2)) = some (.int .i64 ((rd_T37 l1 x9_2).f0)) ∧ w'.cell? ⟨(ad327.add ((x9_2).toNat * 2)).block, (ad327.add ((x9_2).toNat * 2)).off + 1, none⟩ = some (.int .i64 ((rd_T37 l1 x9_2).f1)) ∧ w'.cell? (ad327.add ((x9_2).toNat * 2)) = some (.int .i64 ((rd_T37 l1 x9_2).f0)) ∧ w'.cell? ⟨(ad327.add ((x9_2).toNat * 2)).block, (ad327.add ((x9_2).toNat * 2)).off + 1, none⟩ = some (.int .i64 ((rd_T37 l1 x9_2).f1))) (ds := []) #[false, false, false, false, false, false, false, false, false, false, false, false, false, false, false, false, false, false, false] (by kernel_rfl) rfl rfl ⟨zc BK314 0, zc BK314 1, zc BK314 2, zc BK314 3, zc BK314 4, (zf HB hw327_0), (zf HB hw327_1), (zf HB hw328_0), (zf HB hw328_1)⟩ (fun hHeld => ?_); refine with_tabW spec_Do.tab19 spec_Do.bits19 (fun HT_ HW_ => ?_)
             generalize wr.drew = w165 at BK314 BK315 BK316 BK317 HB hx327_0 hx327_1 hx328_0 hx328_1 hHeld ⊢
             refine zp 0 72 (zm 19 1) HT_ ?_
             refine zp 1 73 (zm 19 3) HT_ ?_
             refine zp 2 74 (zm 19 7) HT_ ?_
             refine zp 3 75 (zm 19 15) HT_ ?_
             refine zp 5 77 (zm 19 47) HT_ ?_
             refine zp 8 80 (zm 19 303) HT_ ?_
             refine zp 9 81 (zm 19 815) HT_ ?_
             refine zp 10 82 (zm 19 1839) HT_ ?_
             refine zp 11 83 (zm 19 3887) HT_ ?_
             refine zp 13 85 (zm 19 12079) HT_ ?_
             refine zt 4 76 (zm 19 12095) HT_ HW_ hHeld ?_
             refine zt 6 78 (zm 19 12159) HT_ HW_ hHeld ?_
             refine zp 7 79 (zm 19 12287) HT_ ?_
             refine zt 12 84 (zm 19 16383) HT_ HW_ hHeld ?_
             refine zt 14 86 (zm 19 32767) HT_ HW_ hHeld ?_
             refine zp 15 87 (zm 19 65535) HT_ ?_
             refine zp 16 88 (zm 19 131071) HT_ ?_
             refine zo 17 (some 12) (zm 19 262143) HT_ (fun K hK => ?_)
             refine box_step ?hg (N := 12) ?hd (cs := #[.int .i64 0, .int .i64 0]) (t := 27) ?hr ?_; (case hd => rfl); (case hg => rfl); (case hr => first | (go_simp; done) | (go_simp; rfl))
             intro gb329 hg w166 hbox hb
             have BK329 := Aside0.mk (hbox)
             have GW329 := zge HB hg
             have GE329 := GW329
             have NB314_329 := zl BK314 hg
             have NB329_314 := zg BK314 hg
             have NB315_329 := zl BK315 hg
             have NB329_315 := zg BK315 hg
             have NB316_329 := zl BK316 hg
             have NB329_316 := zg BK316 hg
             have NB317_329 := zl BK317 hg
             have NB329_317 := zg BK317 hg
             replace BK314 := zb BK314 hb
             replace BK315 := zb BK315 hb
             replace BK316 := zb BK316 hb
             replace BK317 := zb BK317 hb
             replace HB := zB HB hb
             clear hb hbox hg
             refine hK.out _ _ ⟨zc BK314 0, zc BK314 1, zc BK314 2, zc BK314 3, zc BK314 4, (zf HB hw327_0), (zf HB hw327_1), (zf HB hw328_0), (zf HB hw328_1)⟩ (fun hHeld => ?_)
             clear hK K
             refine zn 12 ?_
             refine zo 18 (none) (zm 19 524287) HT_ (fun K hK => ?_)
             have hs167 : w166.cell? ⟨gb329, 0, none⟩ = some (.int .i64 0) := zc BK329 0
             have hfs167 := blk_frozen BK329.out 0
             have hns167_0 := NB314_329.out
             have hns167_1 := NB315_329.out
             have hns167_2 := NB316_329.out
             have hns167_3 := NB317_329.out
             have hms167_0 := NB329_314.out
             have hms167_1 := NB329_315.out
             have hms167_2 := NB329_316.out
             have hms167_3 := NB329_317.out
             have hs168 : w166.cell? ⟨gb329, 1, none⟩ = some (.int .i64 0) := zc BK329 1
             have hfs168 := blk_frozen BK329.out 1
             have hns168_0 := NB314_329.out
             have hns168_1 := NB315_329.out
             have hns168_2 := NB316_329.out
             have hns168_3 := NB317_329.out
             have hms168_0 := NB329_314.out
             have hms168_1 := NB329_315.out
             have hms168_2 := NB329_316.out
             have hms168_3 := NB329_317.out
             refine skip_ (w1 := ?_) (by rfl) rfl ?_ ?_
             rotate_left
             ·go_simp
              rfl
             refine hK.out _ _ ⟨((cell_far (p := ⟨gb329, _, none⟩) NB314_329.out _).trans (((cell_far (p := ⟨gb329, _, none⟩) NB314_329.out _).trans (hHeld.1)))), ((cell_far (p := ⟨gb329, _, none⟩) NB314_329.out _).trans (((cell_far (p := ⟨gb329, _, none⟩) NB314_329.out _).trans (hHeld.2.1)))), ((cell_far (p := ⟨gb329, _, none⟩) NB314_329.out _).trans (((cell_far (p := ⟨gb329, _, none⟩) NB314_329.out _).trans (hHeld.2.2.1)))), ((cell_far (p := ⟨gb329, _, none⟩) NB314_329.out _).trans (((cell_far (p := ⟨gb329, _, none⟩) NB314_329.out _).trans (hHeld.2.2.2.1)))), ((cell_far (p := ⟨gb329, _, none⟩) NB314_329.out _).trans (((cell_far (p := ⟨gb329, _, none⟩) NB314_329.out _).trans (hHeld.2.2.2.2.1)))), ((cell_far (p := ⟨gb329, _, none⟩) (by first | exact Nat.ne_of_lt (Nat.lt_of_lt_of_le (by have := World.block_lt_of_cell? _ _ hw327_0; first | rwa [add_block] at this | exact this) GW329.out) | (rw [add_block]; exact Nat.ne_of_lt (Nat.lt_of_lt_of_le (by have := World.block_lt_of_cell? _ _ hw327_0; first | rwa [add_block] at this | exact this) GW329.out)) | (show (Addr.add _ _).block ≠ _; rw [add_block]; exact Nat.ne_of_lt (Nat.lt_of_lt_of_le (by have := World.block_lt_of_cell? _ _ hw327_0; first | rwa [add_block] at this | exact this) GW329.out)) | (dsimp only; exact Nat.ne_of_lt (Nat.lt_of_lt_of_le (by have := World.block_lt_of_cell? _ _ hw327_0; first | rwa [add_block] at this | exact this) GW329.out))) _).trans (((cell_far (p := ⟨gb329, _, none⟩) (by first | exact Nat.ne_of_lt (Nat.lt_of_lt_of_le (by have := World.block_lt_of_cell? _ _ hw327_0; first | rwa [add_block] at this | exact this) GW329.out) | (rw [add_block]; exact Nat.ne_of_lt (Nat.lt_of_lt_of_le (by have := World.block_lt_of_cell? _ _ hw327_0; first | rwa [add_block] at this | exact this) GW329.out)) | (show (Addr.add _ _).block ≠ _; rw [add_block]; exact Nat.ne_of_lt (Nat.lt_of_lt_of_le (by have := World.block_lt_of_cell? _ _ hw327_0; first | rwa [add_block] at this | exact this) GW329.out)) | (dsimp only; exact Nat.ne_of_lt (Nat.lt_of_lt_of_le (by have := World.block_lt_of_cell? _ _ hw327_0; first | rwa [add_block] at this | exact this) GW329.out))) _).trans (hHeld.2.2.2.2.2.1)))), ((cell_far (p := ⟨gb329, _, none⟩) (by first | exact Nat.ne_of_lt (Nat.lt_of_lt_of_le (by have := World.block_lt_of_cell? _ _ hw327_1; first | rwa [add_block] at this | exact this) GW329.out) | (rw [add_block]; exact Nat.ne_of_lt (Nat.lt_of_lt_of_le (by have := World.block_lt_of_cell? _ _ hw327_1; first | rwa [add_block] at this | exact this) GW329.out)) | (show (Addr.add _ _).block ≠ _; rw [add_block]; exact Nat.ne_of_lt (Nat.lt_of_lt_of_le (by have := World.block_lt_of_cell? _ _ hw327_1; first | rwa [add_block] at this | exact this) GW329.out)) | (dsimp only; exact Nat.ne_of_lt (Nat.lt_of_lt_of_le (by have := World.block_lt_of_cell? _ _ hw327_1; first | rwa [add_block] at this | exact this) GW329.out))) _).trans (((cell_far (p := ⟨gb329, _, none⟩) (by first | exact Nat.ne_of_lt (Nat.lt_of_lt_of_le (by have := World.block_lt_of_cell? _ _ hw327_1; first | rwa [add_block] at this | exact this) GW329.out) | (rw [add_block]; exact Nat.ne_of_lt (Nat.lt_of_lt_of_le (by have := World.block_lt_of_cell? _ _ hw327_1; first | rwa [add_block] at this | exact this) GW329.out)) | (show (Addr.add _ _).block ≠ _; rw [add_block]; exact Nat.ne_of_lt (Nat.lt_of_lt_of_le (by have := World.block_lt_of_cell? _ _ hw327_1; first | rwa [add_block] at this | exact this) GW329.out)) | (dsimp only; exact Nat.ne_of_lt (Nat.lt_of_lt_of_le (by have := World.block_lt_of_cell? _ _ hw327_1; first | rwa [add_block] at this | exact this) GW329.out))) _).trans (hHeld.2.2.2.2.2.2.1)))), ((cell_far (p := ⟨gb329, _, none⟩) (by first | exact Nat.ne_of_lt (Nat.lt_of_lt_of_le (by have := World.block_lt_of_cell? _ _ hw328_0; first | rwa [add_block] at this | exact this) GW329.out) | (rw [add_block]; exact Nat.ne_of_lt (Nat.lt_of_lt_of_le (by have := World.block_lt_of_cell? _ _ hw328_0; first | rwa [add_block] at this | exact this) GW329.out)) | (show (Addr.add _ _).block ≠ _; rw [add_block]; exact Nat.ne_of_lt (Nat.lt_of_lt_of_le (by have := World.block_lt_of_cell? _ _ hw328_0; first | rwa [add_block] at this | exact this) GW329.out)) | (dsimp only; exact Nat.ne_of_lt (Nat.lt_of_lt_of_le (by have := World.block_lt_of_cell? _ _ hw328_0; first | rwa [add_block] at this | exact this) GW329.out))) _).trans (((cell_far (p := ⟨gb329, _, none⟩) (by first | exact Nat.ne_of_lt (Nat.lt_of_lt_of_le (by have := World.block_lt_of_cell? _ _ hw328_0; first | rwa [add_block] at this | exact this) GW329.out) | (rw [add_block]; exact Nat.ne_of_lt (Nat.lt_of_lt_of_le (by have := World.block_lt_of_cell? _ _ hw328_0; first | rwa [add_block] at this | exact this) GW329.out)) | (show (Addr.add _ _).block ≠ _; rw [add_block]; exact Nat.ne_of_lt (Nat.lt_of_lt_of_le (by have := World.block_lt_of_cell? _ _ hw328_0; first | rwa [add_block] at this | exact this) GW329.out)) | (dsimp only; exact Nat.ne_of_lt (Nat.lt_of_lt_of_le (by have := World.block_lt_of_cell? _ _ hw328_0; first | rwa [add_block] at this | exact this) GW329.out))) _).trans (hHeld.2.2.2.2.2.2.2.1)))), ((cell_far (p := ⟨gb329, _, none⟩) (by first | exact Nat.ne_of_lt (Nat.lt_of_lt_of_le (by have := World.block_lt_of_cell? _ _ hw328_1; first | rwa [add_block] at this | exact this) GW329.out) | (rw [add_block]; exact Nat.ne_of_lt (Nat.lt_of_lt_of_le (by have := World.block_lt_of_cell? _ _ hw328_1; first | rwa [add_block] at this | exact this) GW329.out)) | (show (Addr.add _ _).block ≠ _; rw [add_block]; exact Nat.ne_of_lt (Nat.lt_of_lt_of_le (by have := World.block_lt_of_cell? _ _ hw328_1; first | rwa [add_block] at this | exact this) GW329.out)) | (dsimp only; exact Nat.ne_of_lt (Nat.lt_of_lt_of_le (by have := World.block_lt_of_cell? _ _ hw328_1; first | rwa [add_block] at this | exact this) GW329.out))) _).trans (((cell_far (p := ⟨gb329, _, none⟩) (by first | exact Nat.ne_of_lt (Nat.lt_of_lt_of_le (by have := World.block_lt_of_cell? _ _ hw328_1; first | rwa [add_block] at this | exact this) GW329.out) | (rw [add_block]; exact Nat.ne_of_lt (Nat.lt_of_lt_of_le (by have := World.block_lt_of_cell? _ _ hw328_1; first | rwa [add_block] at this | exact this) GW329.out)) | (show (Addr.add _ _).block ≠ _; rw [add_block]; exact Nat.ne_of_lt (Nat.lt_of_lt_of_le (by have := World.block_lt_of_cell? _ _ hw328_1; first | rwa [add_block] at this | exact this) GW329.out)) | (dsimp only; exact Nat.ne_of_lt (Nat.lt_of_lt_of_le (by have := World.block_lt_of_cell? _ _ hw328_1; first | rwa [add_block] at this | exact this) GW329.out))) _).trans (hHeld.2.2.2.2.2.2.2.2))))⟩ (fun hHeld => ?_)
             clear hK K
             refine done_ (done_of HT_.out (by kernel_rfl)) ?_
             have hnb169 := NB315_314.out
             have hnc169 := NB314_315.out
             have hnb170 := NB315_316.out
             have hnc170 := NB316_315.out
             have hnb171 := NB315_317.out
             have hnc171 := NB317_315.out
             have hnb172 := NB315_329.out
             have hnc172 := NB329_315.out
             obtain ⟨hcz173_0, hcz173_1, hcz173_2, hcz173_3, hcz173_4, hcz173_5, hfz173_0, hfz173_1, hfz173_2, hfz173_3, hfz173_4, hfz173_5⟩ := zs6 BK315
             have hnb174 := NB329_314.out
             have hnc174 := NB314_329.out
             have hnb175 := NB329_316.out
             have hnc175 := NB316_329.out
             have hnb176 := NB329_317.out
             have hnc176 := NB317_329.out
             obtain ⟨hcz177_0, hcz177_1, hfz177_0, hfz177_1⟩ := zs2 BK329
             try go_wp2_with (first | ((with_reducible refine gate_callee (f := 71) rfl ?_); refine zL (some 93) Try.func71 #[.agg #[.int .i64 (wrap64 (((rd_T37 l1 x9_2).f1) - a0_2)), .int .i64 (wrap64 (((rd_T37 l1 x9_2).f1) + a0_2))]] ?_; (with_reducible refine (spec_l1clip.calls k2 (wrap64 (((rd_T37 l1 x9_2).f1) - a0_2)) (wrap64 (((rd_T37 l1 x9_2).f1) + a0_2)) t340 t341 _ A164.out).mono ?_); rintro e w178 ⟨rfl, hb⟩; refine ⟨_, rfl, ?_⟩; have n0_ := Aside0.mk (blk_below (g := gb314) (o := .cells #[.int .i64 a0_0, .int .i64 a0_1, .int .i64 a0_2, .int .i64 a0_3, .int .i64 a0_4] 24 (0, 0)) (by (with_reducible repeat (first | refine blk_drewN ?_ _ | refine blk_drew ?_ | refine blk_alloc ?_ _)); refine blk_far ?_ NB314_329.out _; (with_reducible repeat (first | refine blk_drewN ?_ _ | refine blk_drew ?_ | refine blk_alloc ?_ _)); refine blk_far ?_ NB314_329.out _; (with_reducible repeat (first | refine blk_drewN ?_ _ | refine blk_drew ?_ | refine blk_alloc ?_ _)); exact BK314.out) hb); have n1_ := Aside0.mk (blk_below (g := gb315) (o := .cells #[.bool false, .int .i64 a2_1, .int .i64 a2_2, .int .i64 a2_3, .int .i64 a2_4, .int .i64 a2_5] 29 (0, 0)) (by (with_reducible repeat (first | refine blk_drewN ?_ _ | refine blk_drew ?_ | refine blk_alloc ?_ _)); refine blk_far ?_ NB315_329.out _; (with_reducible repeat (first | refine blk_drewN ?_ _ | refine blk_drew ?_ | refine blk_alloc ?_ _)); refine blk_far ?_ NB315_329.out _; (with_reducible repeat (first | refine blk_drewN ?_ _ | refine blk_drew ?_ | refine blk_alloc ?_ _)); exact BK315.out) hb); have n2_ := Aside0.mk (blk_below (g := gb316) (o := .cells #[.int .i64 a3_0, .int .i64 a3_1] 34 (0, 0)) (by (with_reducible repeat (first | refine blk_drewN ?_ _ | refine blk_drew ?_ | refine blk_alloc ?_ _)); refine blk_far ?_ NB316_329.out _; (with_reducible repeat (first | refine blk_drewN ?_ _ | refine blk_drew ?_ | refine blk_alloc ?_ _)); refine blk_far ?_ NB316_329.out _; (with_reducible repeat (first | refine blk_drewN ?_ _ | refine blk_drew ?_ | refine blk_alloc ?_ _)); exact BK316.out) hb); have n3_ := Aside0.mk (blk_below (g := gb317) (o := .cells #[.bool false, .int .i64 0, .int .i64 0, .int .i64 0, .int .i64 0, .int .i64 0] 29 (0, 0)) (by (with_reducible repeat (first | refine blk_drewN ?_ _ | refine blk_drew ?_ | refine blk_alloc ?_ _)); refine blk_far ?_ NB317_329.out _; (with_reducible repeat (first | refine blk_drewN ?_ _ | refine blk_drew ?_ | refine blk_alloc ?_ _)); refine blk_far ?_ NB317_329.out _; (with_reducible repeat (first | refine blk_drewN ?_ _ | refine blk_drew ?_ | refine blk_alloc ?_ _)); exact BK317.out) hb); have n4_ := Aside0.mk (blk_below (g := gb329) (o := .cells #[.int .i64 (wrap64 (((rd_T37 l1 x9_2).f1) - a0_2)), .int .i64 (wrap64 (((rd_T37 l1 x9_2).f1) + a0_2))] 27 (0, 0)) (by (with_reducible repeat (first | refine blk_drewN ?_ _ | refine blk_drew ?_ | refine blk_alloc ?_ _)); refine blk_put (cs := #[.int .i64 (wrap64 (((rd_T37 l1 x9_2).f1) - a0_2)), .int .i64 0]) ?_ 1 _ rfl; (with_reducible repeat (first | refine blk_drewN ?_ _ | refine blk_drew ?_ | refine blk_alloc ?_ _)); refine blk_put (cs := #[.int .i64 0, .int .i64 0]) ?_ 0 _ rfl; (with_reducible repeat (first | refine blk_drewN ?_ _ | refine blk_drew ?_ | refine blk_alloc ?_ _)); exact BK329.out) hb); have n5_ := Aside0.mk (below_step (by repeat (first | (with_reducible first | exact HB.out | apply below_alloc | apply pw_below_drewN | apply below_drew1 | refine below_set ?_ GE314.out | refine below_set ?_ GE315.out | refine below_set ?_ GE316.out | refine below_set ?_ GE317.out | refine below_set ?_ GE329.out) | exact HB.out)) hb); clear BK314 BK315 BK316 BK317 BK329 HB; have BK314 := n0_; have BK315 := n1_; have BK316 := n2_; have BK317 := n3_; have BK329 := n4_; have HB := n5_; clear n0_ n1_ n2_ n3_ n4_ n5_; (try clear hb); obtain ⟨hcz179_0, hcz179_1, hcz179_2, hcz179_3, hcz179_4, hcz179_5, hfz179_0, hfz179_1, hfz179_2, hfz179_3, hfz179_4, hfz179_5⟩ := zs6 BK315; have hnb180 := NB317_314.out; have hnc180 := NB314_317.out; have hnb181 := NB317_316.out; have hnc181 := NB316_317.out; obtain ⟨hcz182_0, hcz182_1, hcz182_2, hcz182_3, hcz182_4, hcz182_5, hfz182_0, hfz182_1, hfz182_2, hfz182_3, hfz182_4, hfz182_5⟩ := zs6 BK317))
             refine bodyPost_ret (results_cell_row rfl _ _ gb317 29 #[.bool true, .int .i64 t340, .int .i64 t341, .int .i64 0, .int .i64 x9_2, .int .i64 a2_5] (0, 0) _ rfl (by (with_reducible repeat (first | refine blk_drewN ?_ _ | refine blk_drew ?_ | refine blk_alloc ?_ _)); refine blk_put (cs := #[.bool true, .int .i64 t340, .int .i64 t341, .int .i64 0, .int .i64 x9_2, .int .i64 0]) ?_ 5 _ rfl; (with_reducible repeat (first | refine blk_drewN ?_ _ | refine blk_drew ?_ | refine blk_alloc ?_ _)); refine blk_put (cs := #[.bool true, .int .i64 t340, .int .i64 t341, .int .i64 0, .int .i64 0, .int .i64 0]) ?_ 4 _ rfl; (with_reducible repeat (first | refine blk_drewN ?_ _ | refine blk_drew ?_ | refine blk_alloc ?_ _)); refine blk_put (cs := #[.bool true, .int .i64 t340, .int .i64 t341, .int .i64 0, .int .i64 0, .int .i64 0]) ?_ 3 _ rfl; (with_reducible repeat (first | refine blk_drewN ?_ _ | refine blk_drew ?_ | refine blk_alloc ?_ _)); refine blk_put (cs := #[.bool true, .int .i64 t340, .int .i64 0, .int .i64 0, .int .i64 0, .int .i64 0]) ?_ 2 _ rfl; (with_reducible repeat (first | refine blk_drewN ?_ _ | refine blk_drew ?_ | refine blk_alloc ?_ _)); refine blk_put (cs := #[.bool true, .int .i64 0, .int .i64 0, .int .i64 0, .int .i64 0, .int .i64 0]) ?_ 1 _ rfl; (with_reducible repeat (first | refine blk_drewN ?_ _ | refine blk_drew ?_ | refine blk_alloc ?_ _)); refine blk_put (cs := #[.bool false, .int .i64 0, .int .i64 0, .int .i64 0, .int .i64 0, .int .i64 0]) ?_ 0 _ rfl; (with_reducible repeat (first | refine blk_drewN ?_ _ | refine blk_drew ?_ | refine blk_alloc ?_ _)); refine blk_far ?_ NB317_315.out _; (with_reducible repeat (first | refine blk_drewN ?_ _ | refine blk_drew ?_ | refine blk_alloc ?_ _)); refine blk_far ?_ NB317_315.out _; (with_reducible repeat (first | refine blk_drewN ?_ _ | refine blk_drew ?_ | refine blk_alloc ?_ _)); refine blk_far ?_ NB317_315.out _; (with_reducible repeat (first | refine blk_drewN ?_ _ | refine blk_drew ?_ | refine blk_alloc ?_ _)); refine blk_far ?_ NB317_315.out _; (with_reducible repeat (first | refine blk_drewN ?_ _ | refine blk_drew ?_ | refine blk_alloc ?_ _)); refine blk_far ?_ NB317_315.out _; (with_reducible repeat (first | refine blk_drewN ?_ _ | refine blk_drew ?_ | refine blk_alloc ?_ _)); exact BK317.out) Try.underlying29 rfl (by kernel_rfl)) rfl ?_
             exact ⟨by first | rfl | (simp [errW_none, errW_some] <;> rfl) | (simp [*, errW_none, errW_some] <;> rfl), by repeat (first | (with_reducible first | exact HB.out | apply below_alloc | apply pw_below_drewN | apply below_drew1 | refine below_set ?_ GE314.out | refine below_set ?_ GE315.out | refine below_set ?_ GE316.out | refine below_set ?_ GE317.out | refine below_set ?_ GE329.out) | exact HB.out)⟩
           ·rw [if_neg c110] at H
            exact absurd H (by simp)
          ·rw [if_neg c109] at H
           exact absurd H (by simp)
     ·rw [if_neg c71] at H
      have c71b0 : (a3_0 == 2) = false := beq_eq_false_iff_ne.mpr c71
      have c71b1 : (a3_0 != 2) = true := bne_iff_ne.mpr c71
      by_cases c183 : a3_0 = 4
      ·rw [if_pos c183] at H
       have c183b0 : (a3_0 == 4) = true := beq_iff_eq.mpr c183
       have c183b1 : (a3_0 != 4) = false := bne_eq_false_iff_eq.mpr c183
       clear c183
       simp only [Option.some.injEq, Prod.mk.injEq] at H
       obtain ⟨rfl, rfl, rfl, rfl, rfl, rfl⟩ := H
       have hnb184 := NB316_314.out
       have hnc184 := NB314_316.out
       have hnb185 := NB316_315.out
       have hnc185 := NB315_316.out
       have hnb186 := NB316_317.out
       have hnc186 := NB317_316.out
       obtain ⟨hcz187_0, hcz187_1, hfz187_0, hfz187_1⟩ := zs2 BK316
       have hnb188 := NB315_314.out
       have hnc188 := NB314_315.out
       have hnb189 := NB315_317.out
       have hnc189 := NB317_315.out
       obtain ⟨hcz190_0, hcz190_1, hcz190_2, hcz190_3, hcz190_4, hcz190_5, hfz190_0, hfz190_1, hfz190_2, hfz190_3, hfz190_4, hfz190_5⟩ := zs6 BK315
       have hnb191 := NB317_314.out
       have hnc191 := NB314_317.out
       obtain ⟨hcz192_0, hcz192_1, hcz192_2, hcz192_3, hcz192_4, hcz192_5, hfz192_0, hfz192_1, hfz192_2, hfz192_3, hfz192_4, hfz192_5⟩ := zs6 BK317
       go_wp2
       refine bodyPost_ret (results_cell_row rfl _ _ gb317 29 #[.bool false, .int .i64 0, .int .i64 0, .int .i64 0, .int .i64 (-1), .int .i64 a2_5] (0, 0) _ rfl (by (with_reducible repeat (first | refine blk_drewN ?_ _ | refine blk_drew ?_ | refine blk_alloc ?_ _)); refine blk_put (cs := #[.bool false, .int .i64 0, .int .i64 0, .int .i64 0, .int .i64 (-1), .int .i64 0]) ?_ 5 _ rfl; (with_reducible repeat (first | refine blk_drewN ?_ _ | refine blk_drew ?_ | refine blk_alloc ?_ _)); refine blk_put (cs := #[.bool false, .int .i64 0, .int .i64 0, .int .i64 0, .int .i64 0, .int .i64 0]) ?_ 4 _ rfl; (with_reducible repeat (first | refine blk_drewN ?_ _ | refine blk_drew ?_ | refine blk_alloc ?_ _)); refine blk_put (cs := #[.bool false, .int .i64 0, .int .i64 0, .int .i64 0, .int .i64 0, .int .i64 0]) ?_ 3 _ rfl; (with_reducible repeat (first | refine blk_drewN ?_ _ | refine blk_drew ?_ | refine blk_alloc ?_ _)); refine blk_put (cs := #[.bool false, .int .i64 0, .int .i64 0, .int .i64 0, .int .i64 0, .int .i64 0]) ?_ 2 _ rfl; (with_reducible repeat (first | refine blk_drewN ?_ _ | refine blk_drew ?_ | refine blk_alloc ?_ _)); refine blk_put (cs := #[.bool false, .int .i64 0, .int .i64 0, .int .i64 0, .int .i64 0, .int .i64 0]) ?_ 1 _ rfl; (with_reducible repeat (first | refine blk_drewN ?_ _ | refine blk_drew ?_ | refine blk_alloc ?_ _)); refine blk_put (cs := #[.bool false, .int .i64 0, .int .i64 0, .int .i64 0, .int .i64 0, .int .i64 0]) ?_ 0 _ rfl; (with_reducible repeat (first | refine blk_drewN ?_ _ | refine blk_drew ?_ | refine blk_alloc ?_ _)); exact BK317.out) Try.underlying29 rfl (by kernel_rfl)) rfl ?_
       exact ⟨by first | rfl | (simp [errW_none, errW_some] <;> rfl) | (simp [*, errW_none, errW_some] <;> rfl), by repeat (first | (with_reducible first | exact HB.out | apply below_alloc | apply pw_below_drewN | apply below_drew1 | refine below_set ?_ GE314.out | refine below_set ?_ GE315.out | refine below_set ?_ GE316.out | refine below_set ?_ GE317.out) | exact HB.out)⟩
      ·rw [if_neg c183] at H
       have c183b0 : (a3_0 == 4) = false := beq_eq_false_iff_ne.mpr c183
       have c183b1 : (a3_0 != 4) = true := bne_iff_ne.mpr c183
       simp only [Option.some.injEq, Prod.mk.injEq] at H
       obtain ⟨rfl, rfl, rfl, rfl, rfl, rfl⟩ := H
       have hnb193 := NB316_314.out
       have hnc193 := NB314_316.out
       have hnb194 := NB316_315.out
       have hnc194 := NB315_316.out
       have hnb195 := NB316_317.out
       have hnc195 := NB317_316.out
       obtain ⟨hcz196_0, hcz196_1, hfz196_0, hfz196_1⟩ := zs2 BK316
       have hnb197 := NB315_314.out
       have hnc197 := NB314_315.out
       have hnb198 := NB315_317.out
       have hnc198 := NB317_315.out
       obtain ⟨hcz199_0, hcz199_1, hcz199_2, hcz199_3, hcz199_4, hcz199_5, hfz199_0, hfz199_1, hfz199_2, hfz199_3, hfz199_4, hfz199_5⟩ := zs6 BK315
       have hnb200 := NB317_314.out
       have hnc200 := NB314_317.out
       obtain ⟨hcz201_0, hcz201_1, hcz201_2, hcz201_3, hcz201_4, hcz201_5, hfz201_0, hfz201_1, hfz201_2, hfz201_3, hfz201_4, hfz201_5⟩ := zs6 BK317
       go_wp2
       refine bodyPost_ret (results_cell_row rfl _ _ gb317 29 #[.bool a2_0, .int .i64 a2_1, .int .i64 a2_2, .int .i64 a2_3, .int .i64 a2_4, .int .i64 a2_5] (0, 0) _ rfl (by (with_reducible repeat (first | refine blk_drewN ?_ _ | refine blk_drew ?_ | refine blk_alloc ?_ _)); refine blk_put (cs := #[.bool a2_0, .int .i64 a2_1, .int .i64 a2_2, .int .i64 a2_3, .int .i64 a2_4, .int .i64 0]) ?_ 5 _ rfl; (with_reducible repeat (first | refine blk_drewN ?_ _ | refine blk_drew ?_ | refine blk_alloc ?_ _)); refine blk_put (cs := #[.bool a2_0, .int .i64 a2_1, .int .i64 a2_2, .int .i64 a2_3, .int .i64 0, .int .i64 0]) ?_ 4 _ rfl; (with_reducible repeat (first | refine blk_drewN ?_ _ | refine blk_drew ?_ | refine blk_alloc ?_ _)); refine blk_put (cs := #[.bool a2_0, .int .i64 a2_1, .int .i64 a2_2, .int .i64 0, .int .i64 0, .int .i64 0]) ?_ 3 _ rfl; (with_reducible repeat (first | refine blk_drewN ?_ _ | refine blk_drew ?_ | refine blk_alloc ?_ _)); refine blk_put (cs := #[.bool a2_0, .int .i64 a2_1, .int .i64 0, .int .i64 0, .int .i64 0, .int .i64 0]) ?_ 2 _ rfl; (with_reducible repeat (first | refine blk_drewN ?_ _ | refine blk_drew ?_ | refine blk_alloc ?_ _)); refine blk_put (cs := #[.bool a2_0, .int .i64 0, .int .i64 0, .int .i64 0, .int .i64 0, .int .i64 0]) ?_ 1 _ rfl; (with_reducible repeat (first | refine blk_drewN ?_ _ | refine blk_drew ?_ | refine blk_alloc ?_ _)); refine blk_put (cs := #[.bool false, .int .i64 0, .int .i64 0, .int .i64 0, .int .i64 0, .int .i64 0]) ?_ 0 _ rfl; (with_reducible repeat (first | refine blk_drewN ?_ _ | refine blk_drew ?_ | refine blk_alloc ?_ _)); exact BK317.out) Try.underlying29 rfl (by kernel_rfl)) rfl ?_
       exact ⟨by first | rfl | (simp [errW_none, errW_some] <;> rfl) | (simp [*, errW_none, errW_some] <;> rfl), by repeat (first | (with_reducible first | exact HB.out | apply below_alloc | apply pw_below_drewN | apply below_drew1 | refine below_set ?_ GE314.out | refine below_set ?_ GE315.out | refine below_set ?_ GE316.out | refine below_set ?_ GE317.out) | exact HB.out)⟩

end Go.Proofs.Ytommdabkkgcgbaa.QFnRead
