-- Written by a program of this session (wip/tools/turnprint.py over the kit's print), for this claim: functions as plain Lean and their contracts.
import Derived.Test.YtommdabkkgcgbaaQFnExactRunx0
import Derived.Test.YtommdabkkgcgbaaQFnExactRunx1
import Derived.Test.YtommdabkkgcgbaaQFnExactRunx6
import Derived.Test.YtommdabkkgcgbaaQFnExactRunx11
import Derived.Test.YtommdabkkgcgbaaQFnExactRunx12
import Derived.Test.YtommdabkkgcgbaaQFnExactRunx13
namespace Go.Proofs.Ytommdabkkgcgbaa.QFnExactRun
open Go.RowKit Go.Proofs.YtommdabkkgcgbaaW.PrintWords Go.Proofs.YtommdabkkgcgbaaW.PrintLast Go.Proofs.YtommdabkkgcgbaaW.PrintMore
attribute [local go_sem] max2_int min2_int max_two min_two max_three min_three max_four min_four   -- for this text's walks alone
set_option linter.unusedVariables false
set_option linter.unusedSimpArgs false

/-! ### laws_FnExactRun: function 5 -/
def laws_FnExactRun.j0 : Nat → List (S106) → List (S44) → List (S29) → List (S29) → Bool → Int → Int → Int → Int → Int → Int → Int → Option (Bool)
 | 0, _, _, _, _, _, _, _, _, _, _, _, _ => none
 | k + 1, x1, x3, x10, x13, x75, x350000, x350001, x350002, x350003, x350004, x351000, x351001 => if x75 = true then (some false) else ((laws_markStateS.f k x13 1).bind fun bt399 => ((laws_heldStateS.f k bt399.2 1).bind fun t401 => (if t401 < 0 then (some false) else (if t401 = bt399.1 then ((laws_toRules.f x350000 x350001 x350002 x350003 x350004).bind fun bt402 => ((laws_toMarkS.f k x1).bind fun t407 => ((laws_toBound.f x351000 x351001).bind fun bt410 => ((laws_toEventS.f k x3).bind fun t412 => ((impl_Run.f k bt402.1 bt402.2.1 bt402.2.2.1 bt402.2.2.2.1 bt402.2.2.2.2 t407 bt410.1 bt410.2 t412).bind fun t415 => ((laws_eqStateS.f k t415 x10).bind fun t418 => (if t418 = true then ((laws_heldStateS.f k bt399.2 1).bind fun t419 => (if t419 < 0 then (some false) else (if t419 = bt399.1 then (some true) else (some false)))) else (some false)))))))) else (some false)))))
def laws_FnExactRun.f (k : Nat) (a0_0 : Int) (a0_1 : Int) (a0_2 : Int) (a0_3 : Int) (a0_4 : Int) (l1 : List (S106)) (a2_0 : Int) (a2_1 : Int) (l3 : List (S44)) : Option (Bool) := (laws_szMarkS.f l1 1048576).bind fun t351 => (if t351 < 0 then (some true) else ((laws_szEventS.f l3 t351).bind fun t352 => (if t352 < 0 then (some true) else ((laws_toRules.f a0_0 a0_1 a0_2 a0_3 a0_4).bind fun bt353 => ((laws_toMarkS.f k l1).bind fun t358 => ((laws_toBound.f a2_0 a2_1).bind fun bt361 => ((laws_toEventS.f k l3).bind fun t363 => ((spec_Run.f k bt353.1 bt353.2.1 bt353.2.2.1 bt353.2.2.2.1 bt353.2.2.2.2 t358 bt361.1 bt361.2 t363).bind fun t366 => ((laws_toMarkS.f k l1).bind fun t369 => ((laws_toEventS.f k l3).bind fun t372 => ((laws_toRules.f a0_0 a0_1 a0_2 a0_3 a0_4).bind fun bt375 => ((laws_toBound.f a2_0 a2_1).bind fun bt380 => ((impl_Run.f k bt375.1 bt375.2.1 bt375.2.2.1 bt375.2.2.2.1 bt375.2.2.2.2 t369 bt380.1 bt380.2 t372).bind fun t382 => ((laws_eqStateS.f k t382 t366).bind fun t385 => (if t385 = true then ((laws_toMarkS.f k l1).bind fun t386 => ((laws_eqMarkS.f k t369 t386).bind fun t389 => (if t389 = true then ((laws_toEventS.f k l3).bind fun t390 => ((laws_eqEventS.f k t372 t390).bind fun t393 => (if t393 = true then ((laws_markMarkS.f k t369 1).bind fun bt394 => ((laws_markEventS.f k t372 bt394.1).bind fun bt396 => (if bt396.1 < 0 then (laws_FnExactRun.j0 k l1 l3 t366 t382 true a0_0 a0_1 a0_2 a0_3 a0_4 a2_0 a2_1) else ((laws_eqStateS.f k t382 t366).bind fun t398 => (laws_FnExactRun.j0 k l1 l3 t366 t382 (!t398) a0_0 a0_1 a0_2 a0_3 a0_4 a2_0 a2_1))))) else (some false)))) else (some false)))) else (some false))))))))))))))))
theorem laws_FnExactRun.mono_l : ∀ k, (∀ y0 y1 y2 y3 y4 y5 y6 y7 y8 y9 y10 y11, LeO (laws_FnExactRun.j0 k y0 y1 y2 y3 y4 y5 y6 y7 y8 y9 y10 y11) (laws_FnExactRun.j0 (k + 1) y0 y1 y2 y3 y4 y5 y6 y7 y8 y9 y10 y11))
 | 0 => fun _ _ _ _ _ _ _ _ _ _ _ _ r h => by simp [laws_FnExactRun.j0] at h
 | k + 1 => by
  have ih0 := laws_FnExactRun.mono_l k
  ·intro y0 y1 y2 y3 y4 y5 y6 y7 y8 y9 y10 y11
   unfold laws_FnExactRun.j0
   repeat' first
   | (with_reducible exact ih0 _ _ _ _ _ _ _ _ _ _ _ _)
   | (with_reducible exact impl_Run.mono _ _ _ _ _ _ _ _ _ _)
   | (with_reducible exact laws_eqEventS.mono _ _ _)
   | (with_reducible exact laws_eqMarkS.mono _ _ _)
   | (with_reducible exact laws_eqStateS.mono _ _ _)
   | (with_reducible exact laws_heldStateS.mono _ _ _)
   | (with_reducible exact laws_markEventS.mono _ _ _)
   | (with_reducible exact laws_markMarkS.mono _ _ _)
   | (with_reducible exact laws_markStateS.mono _ _ _)
   | (with_reducible exact laws_toEventS.mono _ _)
   | (with_reducible exact laws_toMarkS.mono _ _)
   | (with_reducible exact spec_Run.mono _ _ _ _ _ _ _ _ _ _)
   | (with_reducible exact LeO.refl _)
   | (with_reducible exact LeO.none _)
   | (with_reducible refine LeO.ite ?_ ?_)
   | (with_reducible refine LeO.bind ?_ (fun _ => ?_))
   | exact ih0 _ _ _ _ _ _ _ _ _ _ _ _
   | exact impl_Run.mono _ _ _ _ _ _ _ _ _ _
   | exact laws_eqEventS.mono _ _ _
   | exact laws_eqMarkS.mono _ _ _
   | exact laws_eqStateS.mono _ _ _
   | exact laws_heldStateS.mono _ _ _
   | exact laws_markEventS.mono _ _ _
   | exact laws_markMarkS.mono _ _ _
   | exact laws_markStateS.mono _ _ _
   | exact laws_toEventS.mono _ _
   | exact laws_toMarkS.mono _ _
   | exact spec_Run.mono _ _ _ _ _ _ _ _ _ _
   | exact LeO.none _
   | refine LeO.ite ?_ ?_
   | refine LeO.bind ?_ (fun _ => ?_)
theorem laws_FnExactRun.mono : ∀ a0 a1 a2 a3 a4 a5 a6 a7 a8 k, LeO (laws_FnExactRun.f k a0 a1 a2 a3 a4 a5 a6 a7 a8) (laws_FnExactRun.f (k + 1) a0 a1 a2 a3 a4 a5 a6 a7 a8) := by
 intro a0 a1 a2 a3 a4 a5 a6 a7 a8 k
 have ih0 := laws_FnExactRun.mono_l k
 unfold laws_FnExactRun.f
 repeat' first
   | (with_reducible exact ih0 _ _ _ _ _ _ _ _ _ _ _ _)
   | (with_reducible exact impl_Run.mono _ _ _ _ _ _ _ _ _ _)
   | (with_reducible exact laws_eqEventS.mono _ _ _)
   | (with_reducible exact laws_eqMarkS.mono _ _ _)
   | (with_reducible exact laws_eqStateS.mono _ _ _)
   | (with_reducible exact laws_heldStateS.mono _ _ _)
   | (with_reducible exact laws_markEventS.mono _ _ _)
   | (with_reducible exact laws_markMarkS.mono _ _ _)
   | (with_reducible exact laws_markStateS.mono _ _ _)
   | (with_reducible exact laws_toEventS.mono _ _)
   | (with_reducible exact laws_toMarkS.mono _ _)
   | (with_reducible exact spec_Run.mono _ _ _ _ _ _ _ _ _ _)
   | (with_reducible exact LeO.refl _)
   | (with_reducible exact LeO.none _)
   | (with_reducible refine LeO.ite ?_ ?_)
   | (with_reducible refine LeO.bind ?_ (fun _ => ?_))
   | exact ih0 _ _ _ _ _ _ _ _ _ _ _ _
   | exact impl_Run.mono _ _ _ _ _ _ _ _ _ _
   | exact laws_eqEventS.mono _ _ _
   | exact laws_eqMarkS.mono _ _ _
   | exact laws_eqStateS.mono _ _ _
   | exact laws_heldStateS.mono _ _ _
   | exact laws_markEventS.mono _ _ _
   | exact laws_markMarkS.mono _ _ _
   | exact laws_markStateS.mono _ _ _
   | exact laws_toEventS.mono _ _
   | exact laws_toMarkS.mono _ _
   | exact spec_Run.mono _ _ _ _ _ _ _ _ _ _
   | exact LeO.none _
   | refine LeO.ite ?_ ?_
   | refine LeO.bind ?_ (fun _ => ?_)
def laws_FnExactRun.T8 : Bool × List (List Nat × List Nat) := (true, [([], []), ([0], [0]), ([], []), ([2, 1], [2]), ([], []), ([4, 3], [4]), ([], []), ([6, 5], [6]), ([1, 3, 5, 7, 7], [1, 3, 5, 7]), ([8, 8, 0, 1, 2, 3, 4, 5, 6, 7, 8], [8])])
def laws_FnExactRun.B8 : List Nat := [0, 1, 0, 7, 0, 31, 0, 127, 255, 511]
theorem laws_FnExactRun.tab8 : rtab .any (opsOf Try.f5 8) = laws_FnExactRun.T8 := by kernel_rfl
theorem laws_FnExactRun.bits8 : waitsOk laws_FnExactRun.T8.2 laws_FnExactRun.B8 = true := by kernel_rfl
def laws_FnExactRun.T11 : Bool × List (List Nat × List Nat) := (true, [([], []), ([0], [0]), ([], []), ([], []), ([3, 1], [3]), ([], []), ([1, 2, 4, 5, 4], [1, 2, 4, 5]), ([6, 6, 0, 1, 2, 3, 4, 5, 6], [6])])
def laws_FnExactRun.B11 : List Nat := [0, 1, 0, 0, 11, 0, 63, 127]
theorem laws_FnExactRun.tab11 : rtab .any (opsOf Try.f5 11) = laws_FnExactRun.T11 := by kernel_rfl
theorem laws_FnExactRun.bits11 : waitsOk laws_FnExactRun.T11.2 laws_FnExactRun.B11 = true := by kernel_rfl
def laws_FnExactRun.T31 : Bool × List (List Nat × List Nat) := (true, [([], []), ([0], [0]), ([], []), ([2, 1], [2]), ([], []), ([4, 3], [4]), ([], []), ([6, 5], [6]), ([1, 3, 5, 7, 7], [1, 3, 5, 7]), ([8, 8, 0, 1, 2, 3, 4, 5, 6, 7, 8], [8])])
def laws_FnExactRun.B31 : List Nat := [0, 1, 0, 7, 0, 31, 0, 127, 255, 511]
theorem laws_FnExactRun.tab31 : rtab .any (opsOf Try.f5 31) = laws_FnExactRun.T31 := by kernel_rfl
theorem laws_FnExactRun.bits31 : waitsOk laws_FnExactRun.T31.2 laws_FnExactRun.B31 = true := by kernel_rfl
set_option maxHeartbeats 8000000 in
set_option maxRecDepth 100000 in
theorem laws_FnExactRun.calls (k : Nat) (a0_0 : Int) (a0_1 : Int) (a0_2 : Int) (a0_3 : Int) (a0_4 : Int) (A1 : Option Addr) (c1 : Nat) (l1 : List (S106)) (a2_0 : Int) (a2_1 : Int) (A3 : Option Addr) (c3 : Nat) (l3 : List (S44)) (r : Bool) (w : World) (hr1 : Kd.C k106 w A1 l1.length l1) (hc1 : l1.length ≤ c1) (hr3 : Kd.C k44 w A3 l3.length l3) (hc3 : l3.length ≤ c3) (h : laws_FnExactRun.f k a0_0 a0_1 a0_2 a0_3 a0_4 l1 a2_0 a2_1 l3 = some r) (HT : Aside0 (r = true)) :
  Calls Try.prog 5 #[.agg #[.int .i64 a0_0, .int .i64 a0_1, .int .i64 a0_2, .int .i64 a0_3, .int .i64 a0_4], .slice A1 l1.length c1, .agg #[.int .i64 a2_0, .int .i64 a2_1], .slice A3 l3.length c3] w fun e w' => e = .returned (.bool r) ∧ Below w.heap.size w w' := by
 have hu39 := Try.underlying39
 have hu41 := Try.underlying41
 have HR1 := Aside0.mk hr1
 have HC1 := Aside0.mk hc1
 clear hr1 hc1
 have HR3 := Aside0.mk hr3
 have HC3 := Aside0.mk hc3
 clear hr3 hc3
 have HB := Aside0.mk (Below.refl w.heap.size w)
 have H : ((laws_szMarkS.f l1 1048576).bind fun t351 => (if t351 < 0 then (some true) else ((laws_szEventS.f l3 t351).bind fun t352 => (if t352 < 0 then (some true) else ((laws_toRules.f a0_0 a0_1 a0_2 a0_3 a0_4).bind fun bt353 => ((laws_toMarkS.f k l1).bind fun t358 => ((laws_toBound.f a2_0 a2_1).bind fun bt361 => ((laws_toEventS.f k l3).bind fun t363 => ((spec_Run.f k bt353.1 bt353.2.1 bt353.2.2.1 bt353.2.2.2.1 bt353.2.2.2.2 t358 bt361.1 bt361.2 t363).bind fun t366 => ((laws_toMarkS.f k l1).bind fun t369 => ((laws_toEventS.f k l3).bind fun t372 => ((laws_toRules.f a0_0 a0_1 a0_2 a0_3 a0_4).bind fun bt375 => ((laws_toBound.f a2_0 a2_1).bind fun bt380 => ((impl_Run.f k bt375.1 bt375.2.1 bt375.2.2.1 bt375.2.2.2.1 bt375.2.2.2.2 t369 bt380.1 bt380.2 t372).bind fun t382 => ((laws_eqStateS.f k t382 t366).bind fun t385 => (if t385 = true then ((laws_toMarkS.f k l1).bind fun t386 => ((laws_eqMarkS.f k t369 t386).bind fun t389 => (if t389 = true then ((laws_toEventS.f k l3).bind fun t390 => ((laws_eqEventS.f k t372 t390).bind fun t393 => (if t393 = true then ((laws_markMarkS.f k t369 1).bind fun bt394 => ((laws_markEventS.f k t372 bt394.1).bind fun bt396 => (if bt396.1 < 0 then (laws_FnExactRun.j0 k l1 l3 t366 t382 true a0_0 a0_1 a0_2 a0_3 a0_4 a2_0 a2_1) else ((laws_eqStateS.f k t382 t366).bind fun t398 => (laws_FnExactRun.j0 k l1 l3 t366 t382 (!t398) a0_0 a0_1 a0_2 a0_3 a0_4 a2_0 a2_1))))) else (some false)))) else (some false)))) else (some false))))))))))))))))) = some r := h
 clear h
 replace H := Option.bind_eq_some_iff.mp H
 obtain ⟨t351, A50, H⟩ := H
 replace H : (if t351 < 0 then (some true) else ((laws_szEventS.f l3 t351).bind fun t352 => (if t352 < 0 then (some true) else ((laws_toRules.f a0_0 a0_1 a0_2 a0_3 a0_4).bind fun bt353 => ((laws_toMarkS.f k l1).bind fun t358 => ((laws_toBound.f a2_0 a2_1).bind fun bt361 => ((laws_toEventS.f k l3).bind fun t363 => ((spec_Run.f k bt353.1 bt353.2.1 bt353.2.2.1 bt353.2.2.2.1 bt353.2.2.2.2 t358 bt361.1 bt361.2 t363).bind fun t366 => ((laws_toMarkS.f k l1).bind fun t369 => ((laws_toEventS.f k l3).bind fun t372 => ((laws_toRules.f a0_0 a0_1 a0_2 a0_3 a0_4).bind fun bt375 => ((laws_toBound.f a2_0 a2_1).bind fun bt380 => ((impl_Run.f k bt375.1 bt375.2.1 bt375.2.2.1 bt375.2.2.2.1 bt375.2.2.2.2 t369 bt380.1 bt380.2 t372).bind fun t382 => ((laws_eqStateS.f k t382 t366).bind fun t385 => (if t385 = true then ((laws_toMarkS.f k l1).bind fun t386 => ((laws_eqMarkS.f k t369 t386).bind fun t389 => (if t389 = true then ((laws_toEventS.f k l3).bind fun t390 => ((laws_eqEventS.f k t372 t390).bind fun t393 => (if t393 = true then ((laws_markMarkS.f k t369 1).bind fun bt394 => ((laws_markEventS.f k t372 bt394.1).bind fun bt396 => (if bt396.1 < 0 then (laws_FnExactRun.j0 k l1 l3 t366 t382 true a0_0 a0_1 a0_2 a0_3 a0_4 a2_0 a2_1) else ((laws_eqStateS.f k t382 t366).bind fun t398 => (laws_FnExactRun.j0 k l1 l3 t366 t382 (!t398) a0_0 a0_1 a0_2 a0_3 a0_4 a2_0 a2_1))))) else (some false)))) else (some false)))) else (some false)))))))))))))))) = some r := H
 have A5 := Aside0.mk A50
 clear A50
 by_cases c6 : t351 < 0
 ·rw [if_pos c6] at H
  have c6b0 : decide (t351 < 0) = true := decide_eq_true c6
  clear c6
  obtain rfl := Option.some.inj H
  go_enter Try.func5, Try.ntmps5
  go_wp2_with (first | ((with_reducible refine gate_dst (N := 4) rfl ?_); refine zx 4 #[.int .i64 a0_0, .int .i64 a0_1, .int .i64 a0_2, .int .i64 a0_3, .int .i64 a0_4] 39 ?_; intro gb349 hg w7 hbox hb; have BK349 := Aside0.mk (hbox); have GW349 := zge HB hg; have GE349 := GW349; replace HB := zB HB hb; clear hb hbox hg) | ((with_reducible refine gate_dst (N := 6) rfl ?_); refine zx 6 #[.int .i64 a2_0, .int .i64 a2_1] 41 ?_; intro gb350 hg w8 hbox hb; have BK350 := Aside0.mk (hbox); have GW350 := zge HB hg; have GE350 := GW350; have NB349_350 := zl BK349 hg; have NB350_349 := zg BK349 hg; replace BK349 := zb BK349 hb; replace HB := zB HB hb; clear hb hbox hg) | ((with_reducible refine gate_callee (f := 18) rfl ?_); refine zL (some 20) Try.func18 #[.slice A1 l1.length c1, .int .i64 1048576] ?_; (with_reducible refine (laws_szMarkS.calls _ _ l1 1048576 t351 _ ?side1 ?side2 A5.out).mono ?_); (case side1 => repeat (first | exact (Kd.C_below HR1.out HB.out) | (with_reducible refine Kd.C_alloc ?_ _) | (with_reducible refine Kd.C_drewN ?_ _) | (with_reducible refine Kd.C_drew ?_))); (case side2 => exact HC1.out); rintro e w' ⟨rfl, ⟨nd, rfl⟩⟩; refine ⟨_, rfl, ?_⟩))
  go_ret
  exact ⟨by first | rfl | (simp [errW_none, errW_some] <;> rfl) | (simp [*, errW_none, errW_some] <;> rfl), by repeat (first | (with_reducible first | exact HB.out | apply below_alloc | apply pw_below_drewN | apply below_drew1 | refine below_set ?_ GE349.out | refine below_set ?_ GE350.out) | exact HB.out)⟩
 ·rw [if_neg c6] at H
  have c6b0 : decide (t351 < 0) = false := decide_eq_false c6
  clear c6
  replace H := Option.bind_eq_some_iff.mp H
  obtain ⟨t352, A90, H⟩ := H
  replace H : (if t352 < 0 then (some true) else ((laws_toRules.f a0_0 a0_1 a0_2 a0_3 a0_4).bind fun bt353 => ((laws_toMarkS.f k l1).bind fun t358 => ((laws_toBound.f a2_0 a2_1).bind fun bt361 => ((laws_toEventS.f k l3).bind fun t363 => ((spec_Run.f k bt353.1 bt353.2.1 bt353.2.2.1 bt353.2.2.2.1 bt353.2.2.2.2 t358 bt361.1 bt361.2 t363).bind fun t366 => ((laws_toMarkS.f k l1).bind fun t369 => ((laws_toEventS.f k l3).bind fun t372 => ((laws_toRules.f a0_0 a0_1 a0_2 a0_3 a0_4).bind fun bt375 => ((laws_toBound.f a2_0 a2_1).bind fun bt380 => ((impl_Run.f k bt375.1 bt375.2.1 bt375.2.2.1 bt375.2.2.2.1 bt375.2.2.2.2 t369 bt380.1 bt380.2 t372).bind fun t382 => ((laws_eqStateS.f k t382 t366).bind fun t385 => (if t385 = true then ((laws_toMarkS.f k l1).bind fun t386 => ((laws_eqMarkS.f k t369 t386).bind fun t389 => (if t389 = true then ((laws_toEventS.f k l3).bind fun t390 => ((laws_eqEventS.f k t372 t390).bind fun t393 => (if t393 = true then ((laws_markMarkS.f k t369 1).bind fun bt394 => ((laws_markEventS.f k t372 bt394.1).bind fun bt396 => (if bt396.1 < 0 then (laws_FnExactRun.j0 k l1 l3 t366 t382 true a0_0 a0_1 a0_2 a0_3 a0_4 a2_0 a2_1) else ((laws_eqStateS.f k t382 t366).bind fun t398 => (laws_FnExactRun.j0 k l1 l3 t366 t382 (!t398) a0_0 a0_1 a0_2 a0_3 a0_4 a2_0 a2_1))))) else (some false)))) else (some false)))) else (some false)))))))))))))) = some r := H
  have A9 := Aside0.mk A90
  clear A90
  by_cases c10 : t352 < 0
  ·rw [if_pos c10] at H
   have c10b0 : decide (t352 < 0) = true := decide_eq_true c10
   clear c10
   obtain rfl := Option.some.inj H
   go_enter Try.func5, Try.ntmps5
   go_wp2_with (first | ((with_reducible refine gate_dst (N := 4) rfl ?_); refine zx 4 #[.int .i64 a0_0, .int .i64 a0_1, .int .i64 a0_2, .int .i64 a0_3, .int .i64 a0_4] 39 ?_; intro gb349 hg w11 hbox hb; have BK349 := Aside0.mk (hbox); have GW349 := zge HB hg; have GE349 := GW349; replace HB := zB HB hb; clear hb hbox hg) | ((with_reducible refine gate_dst (N := 6) rfl ?_); refine zx 6 #[.int .i64 a2_0, .int .i64 a2_1] 41 ?_; intro gb350 hg w12 hbox hb; have BK350 := Aside0.mk (hbox); have GW350 := zge HB hg; have GE350 := GW350; have NB349_350 := zl BK349 hg; have NB350_349 := zg BK349 hg; replace BK349 := zb BK349 hb; replace HB := zB HB hb; clear hb hbox hg) | ((with_reducible refine gate_callee (f := 18) rfl ?_); refine zL (some 20) Try.func18 #[.slice A1 l1.length c1, .int .i64 1048576] ?_; (with_reducible refine (laws_szMarkS.calls _ _ l1 1048576 t351 _ ?side1 ?side2 A5.out).mono ?_); (case side1 => repeat (first | exact (Kd.C_below HR1.out HB.out) | (with_reducible refine Kd.C_alloc ?_ _) | (with_reducible refine Kd.C_drewN ?_ _) | (with_reducible refine Kd.C_drew ?_))); (case side2 => exact HC1.out); rintro e w' ⟨rfl, ⟨nd, rfl⟩⟩; refine ⟨_, rfl, ?_⟩) | ((with_reducible refine gate_callee (f := 25) rfl ?_); refine zL (some 25) Try.func25 #[.slice A3 l3.length c3, .int .i64 t351] ?_; (with_reducible refine (laws_szEventS.calls _ _ l3 t351 t352 _ ?side1 ?side2 A9.out).mono ?_); (case side1 => repeat (first | exact (Kd.C_below HR3.out (by repeat (first | (with_reducible first | exact HB.out | apply below_alloc | apply pw_below_drewN | apply below_drew1 | refine below_set ?_ GE349.out | refine below_set ?_ GE350.out) | exact HB.out))) | (with_reducible refine Kd.C_alloc ?_ _) | (with_reducible refine Kd.C_drewN ?_ _) | (with_reducible refine Kd.C_drew ?_))); (case side2 => exact HC3.out); rintro e w' ⟨rfl, ⟨nd, rfl⟩⟩; refine ⟨_, rfl, ?_⟩))
   go_ret
   exact ⟨by first | rfl | (simp [errW_none, errW_some] <;> rfl) | (simp [*, errW_none, errW_some] <;> rfl), by repeat (first | (with_reducible first | exact HB.out | apply below_alloc | apply pw_below_drewN | apply below_drew1 | refine below_set ?_ GE349.out | refine below_set ?_ GE350.out) | exact HB.out)⟩
  ·rw [if_neg c10] at H
   have c10b0 : decide (t352 < 0) = false := decide_eq_false c10
   clear c10
   replace H := Option.bind_eq_some_iff.mp H
   obtain ⟨⟨t353, t354, t355, t356, t357⟩, A130, H⟩ := H
   replace H : ((laws_toMarkS.f k l1).bind fun t358 => ((laws_toBound.f a2_0 a2_1).bind fun bt361 => ((laws_toEventS.f k l3).bind fun t363 => ((spec_Run.f k t353 t354 t355 t356 t357 t358 bt361.1 bt361.2 t363).bind fun t366 => ((laws_toMarkS.f k l1).bind fun t369 => ((laws_toEventS.f k l3).bind fun t372 => ((laws_toRules.f a0_0 a0_1 a0_2 a0_3 a0_4).bind fun bt375 => ((laws_toBound.f a2_0 a2_1).bind fun bt380 => ((impl_Run.f k bt375.1 bt375.2.1 bt375.2.2.1 bt375.2.2.2.1 bt375.2.2.2.2 t369 bt380.1 bt380.2 t372).bind fun t382 => ((laws_eqStateS.f k t382 t366).bind fun t385 => (if t385 = true then ((laws_toMarkS.f k l1).bind fun t386 => ((laws_eqMarkS.f k t369 t386).bind fun t389 => (if t389 = true then ((laws_toEventS.f k l3).bind fun t390 => ((laws_eqEventS.f k t372 t390).bind fun t393 => (if t393 = true then ((laws_markMarkS.f k t369 1).bind fun bt394 => ((laws_markEventS.f k t372 bt394.1).bind fun bt396 => (if bt396.1 < 0 then (laws_FnExactRun.j0 k l1 l3 t366 t382 true a0_0 a0_1 a0_2 a0_3 a0_4 a2_0 a2_1) else ((laws_eqStateS.f k t382 t366).bind fun t398 => (laws_FnExactRun.j0 k l1 l3 t366 t382 (!t398) a0_0 a0_1 a0_2 a0_3 a0_4 a2_0 a2_1))))) else (some false)))) else (some false)))) else (some false)))))))))))) = some r := H
   have A13 := Aside0.mk A130
   clear A130
   replace H := Option.bind_eq_some_iff.mp H
   obtain ⟨t358, A140, H⟩ := H
   replace H : ((laws_toBound.f a2_0 a2_1).bind fun bt361 => ((laws_toEventS.f k l3).bind fun t363 => ((spec_Run.f k t353 t354 t355 t356 t357 t358 bt361.1 bt361.2 t363).bind fun t366 => ((laws_toMarkS.f k l1).bind fun t369 => ((laws_toEventS.f k l3).bind fun t372 => ((laws_toRules.f a0_0 a0_1 a0_2 a0_3 a0_4).bind fun bt375 => ((laws_toBound.f a2_0 a2_1).bind fun bt380 => ((impl_Run.f k bt375.1 bt375.2.1 bt375.2.2.1 bt375.2.2.2.1 bt375.2.2.2.2 t369 bt380.1 bt380.2 t372).bind fun t382 => ((laws_eqStateS.f k t382 t366).bind fun t385 => (if t385 = true then ((laws_toMarkS.f k l1).bind fun t386 => ((laws_eqMarkS.f k t369 t386).bind fun t389 => (if t389 = true then ((laws_toEventS.f k l3).bind fun t390 => ((laws_eqEventS.f k t372 t390).bind fun t393 => (if t393 = true then ((laws_markMarkS.f k t369 1).bind fun bt394 => ((laws_markEventS.f k t372 bt394.1).bind fun bt396 => (if bt396.1 < 0 then (laws_FnExactRun.j0 k l1 l3 t366 t382 true a0_0 a0_1 a0_2 a0_3 a0_4 a2_0 a2_1) else ((laws_eqStateS.f k t382 t366).bind fun t398 => (laws_FnExactRun.j0 k l1 l3 t366 t382 (!t398) a0_0 a0_1 a0_2 a0_3 a0_4 a2_0 a2_1))))) else (some false)))) else (some false)))) else (some false))))))))))) = some r := H
   have A14 := Aside0.mk A140
   clear A140
   replace H := Option.bind_eq_some_iff.mp H
   obtain ⟨⟨t361, t362⟩, A150, H⟩ := H
   replace H : ((laws_toEventS.f k l3).bind fun t363 => ((spec_Run.f k t353 t354 t355 t356 t357 t358 t361 t362 t363).bind fun t366 => ((laws_toMarkS.f k l1).bind fun t369 => ((laws_toEventS.f k l3).bind fun t372 => ((laws_toRules.f a0_0 a0_1 a0_2 a0_3 a0_4).bind fun bt375 => ((laws_toBound.f a2_0 a2_1).bind fun bt380 => ((impl_Run.f k bt375.1 bt375.2.1 bt375.2.2.1 bt375.2.2.2.1 bt375.2.2.2.2 t369 bt380.1 bt380.2 t372).bind fun t382 => ((laws_eqStateS.f k t382 t366).bind fun t385 => (if t385 = true then ((laws_toMarkS.f k l1).bind fun t386 => ((laws_eqMarkS.f k t369 t386).bind fun t389 => (if t389 = true then ((laws_toEventS.f k l3).bind fun t390 => ((laws_eqEventS.f k t372 t390).bind fun t393 => (if t393 = true then ((laws_markMarkS.f k t369 1).bind fun bt394 => ((laws_markEventS.f k t372 bt394.1).bind fun bt396 => (if bt396.1 < 0 then (laws_FnExactRun.j0 k l1 l3 t366 t382 true a0_0 a0_1 a0_2 a0_3 a0_4 a2_0 a2_1) else ((laws_eqStateS.f k t382 t366).bind fun t398 => (laws_FnExactRun.j0 k l1 l3 t366 t382 (!t398) a0_0 a0_1 a0_2 a0_3 a0_4 a2_0 a2_1))))) else (some false)))) else (some false)))) else (some false)))))))))) = some r := H
   have A15 := Aside0.mk A150
   clear A150
   replace H := Option.bind_eq_some_iff.mp H
   obtain ⟨t363, A160, H⟩ := H
   replace H : ((spec_Run.f k t353 t354 t355 t356 t357 t358 t361 t362 t363).bind fun t366 => ((laws_toMarkS.f k l1).bind fun t369 => ((laws_toEventS.f k l3).bind fun t372 => ((laws_toRules.f a0_0 a0_1 a0_2 a0_3 a0_4).bind fun bt375 => ((laws_toBound.f a2_0 a2_1).bind fun bt380 => ((impl_Run.f k bt375.1 bt375.2.1 bt375.2.2.1 bt375.2.2.2.1 bt375.2.2.2.2 t369 bt380.1 bt380.2 t372).bind fun t382 => ((laws_eqStateS.f k t382 t366).bind fun t385 => (if t385 = true then ((laws_toMarkS.f k l1).bind fun t386 => ((laws_eqMarkS.f k t369 t386).bind fun t389 => (if t389 = true then ((laws_toEventS.f k l3).bind fun t390 => ((laws_eqEventS.f k t372 t390).bind fun t393 => (if t393 = true then ((laws_markMarkS.f k t369 1).bind fun bt394 => ((laws_markEventS.f k t372 bt394.1).bind fun bt396 => (if bt396.1 < 0 then (laws_FnExactRun.j0 k l1 l3 t366 t382 true a0_0 a0_1 a0_2 a0_3 a0_4 a2_0 a2_1) else ((laws_eqStateS.f k t382 t366).bind fun t398 => (laws_FnExactRun.j0 k l1 l3 t366 t382 (!t398) a0_0 a0_1 a0_2 a0_3 a0_4 a2_0 a2_1))))) else (some false)))) else (some false)))) else (some false))))))))) = some r := H
   have A16 := Aside0.mk A160
   clear A160
   replace H := Option.bind_eq_some_iff.mp H
   obtain ⟨t366, A170, H⟩ := H
   replace H : ((laws_toMarkS.f k l1).bind fun t369 => ((laws_toEventS.f k l3).bind fun t372 => ((laws_toRules.f a0_0 a0_1 a0_2 a0_3 a0_4).bind fun bt375 => ((laws_toBound.f a2_0 a2_1).bind fun bt380 => ((impl_Run.f k bt375.1 bt375.2.1 bt375.2.2.1 bt375.2.2.2.1 bt375.2.2.2.2 t369 bt380.1 bt380.2 t372).bind fun t382 => ((laws_eqStateS.f k t382 t366).bind fun t385 => (if t385 = true then ((laws_toMarkS.f k l1).bind fun t386 => ((laws_eqMarkS.f k t369 t386).bind fun t389 => (if t389 = true then ((laws_toEventS.f k l3).bind fun t390 => ((laws_eqEventS.f k t372 t390).bind fun t393 => (if t393 = true then ((laws_markMarkS.f k t369 1).bind fun bt394 => ((laws_markEventS.f k t372 bt394.1).bind fun bt396 => (if bt396.1 < 0 then (laws_FnExactRun.j0 k l1 l3 t366 t382 true a0_0 a0_1 a0_2 a0_3 a0_4 a2_0 a2_1) else ((laws_eqStateS.f k t382 t366).bind fun t398 => (laws_FnExactRun.j0 k l1 l3 t366 t382 (!t398) a0_0 a0_1 a0_2 a0_3 a0_4 a2_0 a2_1))))) else (some false)))) else (some false)))) else (some false)))))))) = some r := H
   have A17 := Aside0.mk A170
   clear A170
   replace H := Option.bind_eq_some_iff.mp H
   obtain ⟨t369, A180, H⟩ := H
   replace H : ((laws_toEventS.f k l3).bind fun t372 => ((laws_toRules.f a0_0 a0_1 a0_2 a0_3 a0_4).bind fun bt375 => ((laws_toBound.f a2_0 a2_1).bind fun bt380 => ((impl_Run.f k bt375.1 bt375.2.1 bt375.2.2.1 bt375.2.2.2.1 bt375.2.2.2.2 t369 bt380.1 bt380.2 t372).bind fun t382 => ((laws_eqStateS.f k t382 t366).bind fun t385 => (if t385 = true then ((laws_toMarkS.f k l1).bind fun t386 => ((laws_eqMarkS.f k t369 t386).bind fun t389 => (if t389 = true then ((laws_toEventS.f k l3).bind fun t390 => ((laws_eqEventS.f k t372 t390).bind fun t393 => (if t393 = true then ((laws_markMarkS.f k t369 1).bind fun bt394 => ((laws_markEventS.f k t372 bt394.1).bind fun bt396 => (if bt396.1 < 0 then (laws_FnExactRun.j0 k l1 l3 t366 t382 true a0_0 a0_1 a0_2 a0_3 a0_4 a2_0 a2_1) else ((laws_eqStateS.f k t382 t366).bind fun t398 => (laws_FnExactRun.j0 k l1 l3 t366 t382 (!t398) a0_0 a0_1 a0_2 a0_3 a0_4 a2_0 a2_1))))) else (some false)))) else (some false)))) else (some false))))))) = some r := H
   have A18 := Aside0.mk A180
   clear A180
   replace H := Option.bind_eq_some_iff.mp H
   obtain ⟨t372, A190, H⟩ := H
   replace H : ((laws_toRules.f a0_0 a0_1 a0_2 a0_3 a0_4).bind fun bt375 => ((laws_toBound.f a2_0 a2_1).bind fun bt380 => ((impl_Run.f k bt375.1 bt375.2.1 bt375.2.2.1 bt375.2.2.2.1 bt375.2.2.2.2 t369 bt380.1 bt380.2 t372).bind fun t382 => ((laws_eqStateS.f k t382 t366).bind fun t385 => (if t385 = true then ((laws_toMarkS.f k l1).bind fun t386 => ((laws_eqMarkS.f k t369 t386).bind fun t389 => (if t389 = true then ((laws_toEventS.f k l3).bind fun t390 => ((laws_eqEventS.f k t372 t390).bind fun t393 => (if t393 = true then ((laws_markMarkS.f k t369 1).bind fun bt394 => ((laws_markEventS.f k t372 bt394.1).bind fun bt396 => (if bt396.1 < 0 then (laws_FnExactRun.j0 k l1 l3 t366 t382 true a0_0 a0_1 a0_2 a0_3 a0_4 a2_0 a2_1) else ((laws_eqStateS.f k t382 t366).bind fun t398 => (laws_FnExactRun.j0 k l1 l3 t366 t382 (!t398) a0_0 a0_1 a0_2 a0_3 a0_4 a2_0 a2_1))))) else (some false)))) else (some false)))) else (some false)))))) = some r := H
   have A19 := Aside0.mk A190
   clear A190
   replace H := Option.bind_eq_some_iff.mp H
   obtain ⟨⟨t375, t376, t377, t378, t379⟩, A200, H⟩ := H
   replace H : ((laws_toBound.f a2_0 a2_1).bind fun bt380 => ((impl_Run.f k t375 t376 t377 t378 t379 t369 bt380.1 bt380.2 t372).bind fun t382 => ((laws_eqStateS.f k t382 t366).bind fun t385 => (if t385 = true then ((laws_toMarkS.f k l1).bind fun t386 => ((laws_eqMarkS.f k t369 t386).bind fun t389 => (if t389 = true then ((laws_toEventS.f k l3).bind fun t390 => ((laws_eqEventS.f k t372 t390).bind fun t393 => (if t393 = true then ((laws_markMarkS.f k t369 1).bind fun bt394 => ((laws_markEventS.f k t372 bt394.1).bind fun bt396 => (if bt396.1 < 0 then (laws_FnExactRun.j0 k l1 l3 t366 t382 true a0_0 a0_1 a0_2 a0_3 a0_4 a2_0 a2_1) else ((laws_eqStateS.f k t382 t366).bind fun t398 => (laws_FnExactRun.j0 k l1 l3 t366 t382 (!t398) a0_0 a0_1 a0_2 a0_3 a0_4 a2_0 a2_1))))) else (some false)))) else (some false)))) else (some false))))) = some r := H
   have A20 := Aside0.mk A200
   clear A200
   replace H := Option.bind_eq_some_iff.mp H
   obtain ⟨⟨t380, t381⟩, A210, H⟩ := H
   replace H : ((impl_Run.f k t375 t376 t377 t378 t379 t369 t380 t381 t372).bind fun t382 => ((laws_eqStateS.f k t382 t366).bind fun t385 => (if t385 = true then ((laws_toMarkS.f k l1).bind fun t386 => ((laws_eqMarkS.f k t369 t386).bind fun t389 => (if t389 = true then ((laws_toEventS.f k l3).bind fun t390 => ((laws_eqEventS.f k t372 t390).bind fun t393 => (if t393 = true then ((laws_markMarkS.f k t369 1).bind fun bt394 => ((laws_markEventS.f k t372 bt394.1).bind fun bt396 => (if bt396.1 < 0 then (laws_FnExactRun.j0 k l1 l3 t366 t382 true a0_0 a0_1 a0_2 a0_3 a0_4 a2_0 a2_1) else ((laws_eqStateS.f k t382 t366).bind fun t398 => (laws_FnExactRun.j0 k l1 l3 t366 t382 (!t398) a0_0 a0_1 a0_2 a0_3 a0_4 a2_0 a2_1))))) else (some false)))) else (some false)))) else (some false)))) = some r := H
   have A21 := Aside0.mk A210
   clear A210
   replace H := Option.bind_eq_some_iff.mp H
   obtain ⟨t382, A220, H⟩ := H
   replace H : ((laws_eqStateS.f k t382 t366).bind fun t385 => (if t385 = true then ((laws_toMarkS.f k l1).bind fun t386 => ((laws_eqMarkS.f k t369 t386).bind fun t389 => (if t389 = true then ((laws_toEventS.f k l3).bind fun t390 => ((laws_eqEventS.f k t372 t390).bind fun t393 => (if t393 = true then ((laws_markMarkS.f k t369 1).bind fun bt394 => ((laws_markEventS.f k t372 bt394.1).bind fun bt396 => (if bt396.1 < 0 then (laws_FnExactRun.j0 k l1 l3 t366 t382 true a0_0 a0_1 a0_2 a0_3 a0_4 a2_0 a2_1) else ((laws_eqStateS.f k t382 t366).bind fun t398 => (laws_FnExactRun.j0 k l1 l3 t366 t382 (!t398) a0_0 a0_1 a0_2 a0_3 a0_4 a2_0 a2_1))))) else (some false)))) else (some false)))) else (some false))) = some r := H
   have A22 := Aside0.mk A220
   clear A220
   replace H := Option.bind_eq_some_iff.mp H
   obtain ⟨t385, A230, H⟩ := H
   replace H : (if t385 = true then ((laws_toMarkS.f k l1).bind fun t386 => ((laws_eqMarkS.f k t369 t386).bind fun t389 => (if t389 = true then ((laws_toEventS.f k l3).bind fun t390 => ((laws_eqEventS.f k t372 t390).bind fun t393 => (if t393 = true then ((laws_markMarkS.f k t369 1).bind fun bt394 => ((laws_markEventS.f k t372 bt394.1).bind fun bt396 => (if bt396.1 < 0 then (laws_FnExactRun.j0 k l1 l3 t366 t382 true a0_0 a0_1 a0_2 a0_3 a0_4 a2_0 a2_1) else ((laws_eqStateS.f k t382 t366).bind fun t398 => (laws_FnExactRun.j0 k l1 l3 t366 t382 (!t398) a0_0 a0_1 a0_2 a0_3 a0_4 a2_0 a2_1))))) else (some false)))) else (some false)))) else (some false)) = some r := H
   have A23 := Aside0.mk A230
   clear A230
   by_cases c24 : t385 = true
   ·subst c24
    have H1 : ((laws_toMarkS.f k l1).bind fun t386 => ((laws_eqMarkS.f k t369 t386).bind fun t389 => (if t389 = true then ((laws_toEventS.f k l3).bind fun t390 => ((laws_eqEventS.f k t372 t390).bind fun t393 => (if t393 = true then ((laws_markMarkS.f k t369 1).bind fun bt394 => ((laws_markEventS.f k t372 bt394.1).bind fun bt396 => (if bt396.1 < 0 then (laws_FnExactRun.j0 k l1 l3 t366 t382 true a0_0 a0_1 a0_2 a0_3 a0_4 a2_0 a2_1) else ((laws_eqStateS.f k t382 t366).bind fun t398 => (laws_FnExactRun.j0 k l1 l3 t366 t382 (!t398) a0_0 a0_1 a0_2 a0_3 a0_4 a2_0 a2_1))))) else (some false)))) else (some false)))) = some r := by rw [if_pos rfl] at H; exact H
    clear H
    have H := H1
    clear H1
    replace H := Option.bind_eq_some_iff.mp H
    obtain ⟨t386, A250, H⟩ := H
    replace H : ((laws_eqMarkS.f k t369 t386).bind fun t389 => (if t389 = true then ((laws_toEventS.f k l3).bind fun t390 => ((laws_eqEventS.f k t372 t390).bind fun t393 => (if t393 = true then ((laws_markMarkS.f k t369 1).bind fun bt394 => ((laws_markEventS.f k t372 bt394.1).bind fun bt396 => (if bt396.1 < 0 then (laws_FnExactRun.j0 k l1 l3 t366 t382 true a0_0 a0_1 a0_2 a0_3 a0_4 a2_0 a2_1) else ((laws_eqStateS.f k t382 t366).bind fun t398 => (laws_FnExactRun.j0 k l1 l3 t366 t382 (!t398) a0_0 a0_1 a0_2 a0_3 a0_4 a2_0 a2_1))))) else (some false)))) else (some false))) = some r := H
    have A25 := Aside0.mk A250
    clear A250
    replace H := Option.bind_eq_some_iff.mp H
    obtain ⟨t389, A260, H⟩ := H
    replace H : (if t389 = true then ((laws_toEventS.f k l3).bind fun t390 => ((laws_eqEventS.f k t372 t390).bind fun t393 => (if t393 = true then ((laws_markMarkS.f k t369 1).bind fun bt394 => ((laws_markEventS.f k t372 bt394.1).bind fun bt396 => (if bt396.1 < 0 then (laws_FnExactRun.j0 k l1 l3 t366 t382 true a0_0 a0_1 a0_2 a0_3 a0_4 a2_0 a2_1) else ((laws_eqStateS.f k t382 t366).bind fun t398 => (laws_FnExactRun.j0 k l1 l3 t366 t382 (!t398) a0_0 a0_1 a0_2 a0_3 a0_4 a2_0 a2_1))))) else (some false)))) else (some false)) = some r := H
    have A26 := Aside0.mk A260
    clear A260
    by_cases c27 : t389 = true
    ·subst c27
     have H1 : ((laws_toEventS.f k l3).bind fun t390 => ((laws_eqEventS.f k t372 t390).bind fun t393 => (if t393 = true then ((laws_markMarkS.f k t369 1).bind fun bt394 => ((laws_markEventS.f k t372 bt394.1).bind fun bt396 => (if bt396.1 < 0 then (laws_FnExactRun.j0 k l1 l3 t366 t382 true a0_0 a0_1 a0_2 a0_3 a0_4 a2_0 a2_1) else ((laws_eqStateS.f k t382 t366).bind fun t398 => (laws_FnExactRun.j0 k l1 l3 t366 t382 (!t398) a0_0 a0_1 a0_2 a0_3 a0_4 a2_0 a2_1))))) else (some false)))) = some r := by rw [if_pos rfl] at H; exact H
     clear H
     have H := H1
     clear H1
     replace H := Option.bind_eq_some_iff.mp H
     obtain ⟨t390, A280, H⟩ := H
     replace H : ((laws_eqEventS.f k t372 t390).bind fun t393 => (if t393 = true then ((laws_markMarkS.f k t369 1).bind fun bt394 => ((laws_markEventS.f k t372 bt394.1).bind fun bt396 => (if bt396.1 < 0 then (laws_FnExactRun.j0 k l1 l3 t366 t382 true a0_0 a0_1 a0_2 a0_3 a0_4 a2_0 a2_1) else ((laws_eqStateS.f k t382 t366).bind fun t398 => (laws_FnExactRun.j0 k l1 l3 t366 t382 (!t398) a0_0 a0_1 a0_2 a0_3 a0_4 a2_0 a2_1))))) else (some false))) = some r := H
     have A28 := Aside0.mk A280
     clear A280
     replace H := Option.bind_eq_some_iff.mp H
     obtain ⟨t393, A290, H⟩ := H
     replace H : (if t393 = true then ((laws_markMarkS.f k t369 1).bind fun bt394 => ((laws_markEventS.f k t372 bt394.1).bind fun bt396 => (if bt396.1 < 0 then (laws_FnExactRun.j0 k l1 l3 t366 t382 true a0_0 a0_1 a0_2 a0_3 a0_4 a2_0 a2_1) else ((laws_eqStateS.f k t382 t366).bind fun t398 => (laws_FnExactRun.j0 k l1 l3 t366 t382 (!t398) a0_0 a0_1 a0_2 a0_3 a0_4 a2_0 a2_1))))) else (some false)) = some r := H
     have A29 := Aside0.mk A290
     clear A290
     by_cases c30 : t393 = true
     ·subst c30
      have H1 : ((laws_markMarkS.f k t369 1).bind fun bt394 => ((laws_markEventS.f k t372 bt394.1).bind fun bt396 => (if bt396.1 < 0 then (laws_FnExactRun.j0 k l1 l3 t366 t382 true a0_0 a0_1 a0_2 a0_3 a0_4 a2_0 a2_1) else ((laws_eqStateS.f k t382 t366).bind fun t398 => (laws_FnExactRun.j0 k l1 l3 t366 t382 (!t398) a0_0 a0_1 a0_2 a0_3 a0_4 a2_0 a2_1))))) = some r := by rw [if_pos rfl] at H; exact H
      clear H
      have H := H1
      clear H1
      replace H := Option.bind_eq_some_iff.mp H
      obtain ⟨⟨t394, t395⟩, A310, H⟩ := H
      replace H : ((laws_markEventS.f k t372 t394).bind fun bt396 => (if bt396.1 < 0 then (laws_FnExactRun.j0 k l1 l3 t366 t382 true a0_0 a0_1 a0_2 a0_3 a0_4 a2_0 a2_1) else ((laws_eqStateS.f k t382 t366).bind fun t398 => (laws_FnExactRun.j0 k l1 l3 t366 t382 (!t398) a0_0 a0_1 a0_2 a0_3 a0_4 a2_0 a2_1)))) = some r := H
      have A31 := Aside0.mk A310
      clear A310
      replace H := Option.bind_eq_some_iff.mp H
      obtain ⟨⟨t396, t397⟩, A320, H⟩ := H
      replace H : (if t396 < 0 then (laws_FnExactRun.j0 k l1 l3 t366 t382 true a0_0 a0_1 a0_2 a0_3 a0_4 a2_0 a2_1) else ((laws_eqStateS.f k t382 t366).bind fun t398 => (laws_FnExactRun.j0 k l1 l3 t366 t382 (!t398) a0_0 a0_1 a0_2 a0_3 a0_4 a2_0 a2_1))) = some r := H
      have A32 := Aside0.mk A320
      clear A320
      have HC33 := Aside0.mk H
      clear H
      go_enter Try.func5, Try.ntmps5
      try go_wp2_with (first | ((with_reducible refine gate_dst (N := 4) rfl ?_); refine zx 4 #[.int .i64 a0_0, .int .i64 a0_1, .int .i64 a0_2, .int .i64 a0_3, .int .i64 a0_4] 39 ?_; intro gb349 hg w34 hbox hb; have BK349 := Aside0.mk (hbox); have GW349 := zge HB hg; have GE349 := GW349; replace HB := zB HB hb; clear hb hbox hg) | ((with_reducible refine gate_dst (N := 6) rfl ?_); refine zx 6 #[.int .i64 a2_0, .int .i64 a2_1] 41 ?_; intro gb350 hg w35 hbox hb; have BK350 := Aside0.mk (hbox); have GW350 := zge HB hg; have GE350 := GW350; have NB349_350 := zl BK349 hg; have NB350_349 := zg BK349 hg; replace BK349 := zb BK349 hb; replace HB := zB HB hb; clear hb hbox hg) | ((with_reducible refine gate_callee (f := 18) rfl ?_); refine zL (some 20) Try.func18 #[.slice A1 l1.length c1, .int .i64 1048576] ?_; (with_reducible refine (laws_szMarkS.calls _ _ l1 1048576 t351 _ ?side1 ?side2 A5.out).mono ?_); (case side1 => repeat (first | exact (Kd.C_below HR1.out HB.out) | (with_reducible refine Kd.C_alloc ?_ _) | (with_reducible refine Kd.C_drewN ?_ _) | (with_reducible refine Kd.C_drew ?_))); (case side2 => exact HC1.out); rintro e w' ⟨rfl, ⟨nd, rfl⟩⟩; refine ⟨_, rfl, ?_⟩) | ((with_reducible refine gate_callee (f := 25) rfl ?_); refine zL (some 25) Try.func25 #[.slice A3 l3.length c3, .int .i64 t351] ?_; (with_reducible refine (laws_szEventS.calls _ _ l3 t351 t352 _ ?side1 ?side2 A9.out).mono ?_); (case side1 => repeat (first | exact (Kd.C_below HR3.out (by repeat (first | (with_reducible first | exact HB.out | apply below_alloc | apply pw_below_drewN | apply below_drew1 | refine below_set ?_ GE349.out | refine below_set ?_ GE350.out) | exact HB.out))) | (with_reducible refine Kd.C_alloc ?_ _) | (with_reducible refine Kd.C_drewN ?_ _) | (with_reducible refine Kd.C_drew ?_))); (case side2 => exact HC3.out); rintro e w' ⟨rfl, ⟨nd, rfl⟩⟩; refine ⟨_, rfl, ?_⟩))
      (try (rw [drewN_self w35]; generalize hq_ : World.drewN w35 _ = w35; have n0_ : Aside0 (w35.heap[gb349]? = some (.cells #[.int .i64 a0_0, .int .i64 a0_1, .int .i64 a0_2, .int .i64 a0_3, .int .i64 a0_4] 39 (0, 0))) := ⟨by rw [← hq_]; exact (zy BK349)⟩; have n1_ : Aside0 (w35.heap[gb350]? = some (.cells #[.int .i64 a2_0, .int .i64 a2_1] 41 (0, 0))) := ⟨by rw [← hq_]; exact (zy BK350)⟩; have n2_ : Aside0 (Below w.heap.size w w35) := ⟨by rw [← hq_]; exact (by repeat (first | (with_reducible first | exact HB.out | apply below_alloc | apply pw_below_drewN | apply below_drew1 | refine below_set ?_ GE349.out | refine below_set ?_ GE350.out) | exact HB.out))⟩; clear BK349 BK350 HB hq_; have BK349 := n0_; have BK350 := n1_; have HB := n2_; clear n0_ n1_ n2_))
      have n0_ := Aside0.mk (blk_drew BK349.out)
      have n1_ := Aside0.mk (blk_drew BK350.out)
      have n2_ := Aside0.mk (below_drew1 HB.out)
      clear BK349 BK350 HB
      have BK349 := n0_
      have BK350 := n1_
      have HB := n2_
      clear n0_ n1_ n2_
      refine start_ (n := 10) (S := fun w' => w'.cell? ⟨gb349, 0, none⟩ = some (.int .i64 a0_0) ∧ w'.cell? ⟨gb349, 1, none⟩ = some (.int .i64 a0_1) ∧ w'.cell? ⟨gb349, 2, none⟩ = some (.int .i64 a0_2) ∧ w'.cell? ⟨gb349, 3, none⟩ = some (.int .i64 a0_3) ∧ w'.cell? ⟨gb349, 4, none⟩ = some (.int .i64 a0_4) ∧ w'.cell? ⟨gb350, 0, none⟩ = some (.int .i64 a2_0) ∧ w'.cell? ⟨gb350, 1, none⟩ = some (.int .i64 a2_1)) (ds := []) #[false, false, false, false, false, false, false, false, false, false] (by kernel_rfl) rfl rfl ⟨zc BK349 0, zc BK349 1, zc BK349 2, zc BK349 3, zc BK349 4, zc BK350 0, zc BK350 1⟩ (fun hHeld => ?_); refine with_tabW laws_FnExactRun.tab8 laws_FnExactRun.bits8 (fun HT_ HW_ => ?_)
      generalize w35.drew = w36 at BK349 BK350 HB hHeld ⊢
      refine zp 2 30 (zm 10 4) HT_ ?_
      refine zp 6 34 (zm 10 68) HT_ ?_
      refine zt 0 28 (zm 10 69) HT_ HW_ hHeld ?_
      refine zt 4 32 (zm 10 85) HT_ HW_ hHeld ?_
      refine zo 1 (some 29) (zm 10 87) HT_ (fun K hK => ?_)
      refine zG Try.func19 #[.agg #[.int .i64 a0_0, .int .i64 a0_1, .int .i64 a0_2, .int .i64 a0_3, .int .i64 a0_4]] ?_
      with_reducible refine (laws_toRules.calls a0_0 a0_1 a0_2 a0_3 a0_4 t353 t354 t355 t356 t357 _ A13.out).mono ?_
      rintro e w37 ⟨rfl, hb⟩
      refine ⟨_, rfl, ?_⟩
      replace BK349 := zb BK349 hb
      replace BK350 := zb BK350 hb
      replace HB := zB HB hb
      (try clear hb)
      refine hK.out _ _ ⟨zc BK349 0, zc BK349 1, zc BK349 2, zc BK349 3, zc BK349 4, zc BK350 0, zc BK350 1⟩ (fun hHeld => ?_)
      clear hK K
      refine zn 29 ?_
      refine zo 3 (some 31) (zm 10 95) HT_ (fun K hK => ?_)
      refine zG Try.func20 #[.slice A1 l1.length c1] ?_
      with_reducible refine (laws_toMarkS.calls k _ _ l1 t358 _ ?side1 ?side2 A14.out).mono ?_
      (case side1 => repeat (first | exact (Kd.C_below HR1.out HB.out) | (with_reducible refine Kd.C_alloc ?_ _) | (with_reducible refine Kd.C_drewN ?_ _) | (with_reducible refine Kd.C_drew ?_)))
      (case side2 => exact HC1.out)
      rintro e w38 ⟨v359, rfl, ho0, hb⟩
      refine ⟨_, rfl, ?_⟩
      have HO360 := Aside0.mk (Kd.R_lower ho0 (below_size (by repeat (first | (with_reducible first | exact HB.out | apply below_alloc | apply pw_below_drewN | apply below_drew1 | refine below_set ?_ GE349.out | refine below_set ?_ GE350.out) | exact HB.out))))
      replace BK349 := zb BK349 hb
      replace BK350 := zb BK350 hb
      replace HB := zB HB hb
      (try clear hb)
      (try clear ho0)
      refine hK.out _ _ ⟨zc BK349 0, zc BK349 1, zc BK349 2, zc BK349 3, zc BK349 4, zc BK350 0, zc BK350 1⟩ (fun hHeld => ?_)
      clear hK K
      refine zn 31 ?_
      refine zo 5 (some 33) (zm 10 127) HT_ (fun K hK => ?_)
      refine zG Try.func27 #[.agg #[.int .i64 a2_0, .int .i64 a2_1]] ?_
      with_reducible refine (laws_toBound.calls a2_0 a2_1 t361 t362 _ A15.out).mono ?_
      rintro e w39 ⟨rfl, hb⟩
      refine ⟨_, rfl, ?_⟩
      replace BK349 := zb BK349 hb
      replace BK350 := zb BK350 hb
      replace HB := zB HB hb
      replace HO360 := Aside0.mk (Kd.R_below (zr HO360) hb)
      (try clear hb)
      refine hK.out _ _ ⟨zc BK349 0, zc BK349 1, zc BK349 2, zc BK349 3, zc BK349 4, zc BK350 0, zc BK350 1⟩ (fun hHeld => ?_)
      clear hK K
      refine zn 33 ?_
      refine zo 7 (some 35) (zm 10 255) HT_ (fun K hK => ?_)
      refine zG Try.func28 #[.slice A3 l3.length c3] ?_
      with_reducible refine (laws_toEventS.calls k _ _ l3 t363 _ ?side1 ?side2 A16.out).mono ?_
      (case side1 => repeat (first | exact (Kd.C_below HR3.out HB.out) | (with_reducible refine Kd.C_alloc ?_ _) | (with_reducible refine Kd.C_drewN ?_ _) | (with_reducible refine Kd.C_drew ?_)))
      (case side2 => exact HC3.out)
      rintro e w40 ⟨v364, rfl, ho0, hb⟩
      refine ⟨_, rfl, ?_⟩
      have HO365 := Aside0.mk (Kd.R_lower ho0 (below_size (by repeat (first | (with_reducible first | exact HB.out | apply below_alloc | apply pw_below_drewN | apply below_drew1 | refine below_set ?_ GE349.out | refine below_set ?_ GE350.out) | exact HB.out))))
      replace BK349 := zb BK349 hb
      replace BK350 := zb BK350 hb
      replace HB := zB HB hb
      replace HO360 := Aside0.mk (Kd.R_below (zr HO360) hb)
      (try clear hb)
      (try clear ho0)
      obtain ⟨Ao41, co41, eo41⟩ := Kd.R_slice HO360.out
      (first | subst eo41 | (injection eo41 with f1_ f2_ f3_; have f4_ := f1_.symm; have f5_ := f3_.symm; clear f1_ f2_ f3_; subst f4_; subst f5_))
      obtain ⟨Ao42, co42, eo42⟩ := Kd.R_slice HO365.out
      (first | subst eo42 | (injection eo42 with f1_ f2_ f3_; have f4_ := f1_.symm; have f5_ := f3_.symm; clear f1_ f2_ f3_; subst f4_; subst f5_))
      refine hK.out _ _ ⟨zc BK349 0, zc BK349 1, zc BK349 2, zc BK349 3, zc BK349 4, zc BK350 0, zc BK350 1⟩ (fun hHeld => ?_)
      clear hK K
      refine zn 35 ?_
      refine zo 8 (some 36) (zm 10 511) HT_ (fun K hK => ?_)
      refine zG Try.func26 #[.agg #[.int .i64 t353, .int .i64 t354, .int .i64 t355, .int .i64 t356, .int .i64 t357], .slice Ao41 t358.length co41, .agg #[.int .i64 t361, .int .i64 t362], .slice Ao42 t363.length co42] ?_
      with_reducible refine (spec_Run.calls k t353 t354 t355 t356 t357 _ _ t358 t361 t362 _ _ t363 t366 _ ?side1 ?side2 ?side3 ?side4 A17.out).mono ?_
      (case side1 => repeat (first | exact (Kd.R_reads' HO360.out).2.2 | (with_reducible refine Kd.C_alloc ?_ _) | (with_reducible refine Kd.C_drewN ?_ _) | (with_reducible refine Kd.C_drew ?_)))
      (case side2 => exact (Kd.R_reads' HO360.out).2.1)
      (case side3 => repeat (first | exact (Kd.R_reads' HO365.out).2.2 | (with_reducible refine Kd.C_alloc ?_ _) | (with_reducible refine Kd.C_drewN ?_ _) | (with_reducible refine Kd.C_drew ?_)))
      (case side4 => exact (Kd.R_reads' HO365.out).2.1)
      rintro e w43 ⟨v367, rfl, ho0, hb⟩
      refine ⟨_, rfl, ?_⟩
      have n0_ := Aside0.mk (Kd.R_below (zr HO360) hb)
      have n1_ := Aside0.mk (Kd.R_below (zr HO365) hb)
      have HO368 := Aside0.mk (Kd.R_lower ho0 (below_size (by repeat (first | (with_reducible first | exact HB.out | apply below_alloc | apply pw_below_drewN | apply below_drew1 | refine below_set ?_ GE349.out | refine below_set ?_ GE350.out) | exact HB.out))))
      replace BK349 := zb BK349 hb
      replace BK350 := zb BK350 hb
      replace HB := zB HB hb
      clear HO360 HO365
      have HO360 := n0_
      have HO365 := n1_
      clear n0_ n1_
      (try clear hb)
      (try clear ho0)
      refine hK.out _ _ ⟨zc BK349 0, zc BK349 1, zc BK349 2, zc BK349 3, zc BK349 4, zc BK350 0, zc BK350 1⟩ (fun hHeld => ?_)
      clear hK K
      refine zn 36 ?_
      refine zp 9 10 (zm 10 1023) HT_ ?_
      refine done_ (done_of HT_.out (by kernel_rfl)) ?_
      try go_wp2_with (first | ((with_reducible refine gate_callee (f := 20) rfl ?_); refine zL (some 38) Try.func20 #[.slice A1 l1.length c1] ?_; (with_reducible refine (laws_toMarkS.calls k _ _ l1 t369 _ ?side1 ?side2 A18.out).mono ?_); (case side1 => repeat (first | exact (Kd.C_below HR1.out HB.out) | (with_reducible refine Kd.C_alloc ?_ _) | (with_reducible refine Kd.C_drewN ?_ _) | (with_reducible refine Kd.C_drew ?_))); (case side2 => exact HC1.out); rintro e w44 ⟨v370, rfl, ho0, hb⟩; refine ⟨_, rfl, ?_⟩; have n0_ := Aside0.mk (Kd.R_elder' (zr HO360) (Kd.R_base ho0) hb); have n1_ := Aside0.mk (Kd.R_below (zr HO365) hb); have n2_ := Aside0.mk (Kd.R_below (zr HO368) hb); have HO371 := Aside0.mk (Kd.R_lower (Kd.R_new' ho0 (Kd.R_lt (zr HO360))) (below_size (by repeat (first | (with_reducible first | exact HB.out | apply below_alloc | apply pw_below_drewN | apply below_drew1 | refine below_set ?_ GE349.out | refine below_set ?_ GE350.out) | exact HB.out)))); replace BK349 := zb BK349 hb; replace BK350 := zb BK350 hb; replace HB := zB HB hb; clear HO360 HO365 HO368; have HO360 := n0_; have HO365 := n1_; have HO368 := n2_; clear n0_ n1_ n2_; (try clear hb); (try clear ho0)) | ((with_reducible refine gate_callee (f := 28) rfl ?_); refine zL (some 40) Try.func28 #[.slice A3 l3.length c3] ?_; (with_reducible refine (laws_toEventS.calls k _ _ l3 t372 _ ?side1 ?side2 A19.out).mono ?_); (case side1 => repeat (first | exact (Kd.C_below HR3.out HB.out) | (with_reducible refine Kd.C_alloc ?_ _) | (with_reducible refine Kd.C_drewN ?_ _) | (with_reducible refine Kd.C_drew ?_))); (case side2 => exact HC3.out); rintro e w45 ⟨v373, rfl, ho0, hb⟩; refine ⟨_, rfl, ?_⟩; have n0_ := Aside0.mk (Kd.R_below (zr HO360) hb); have n1_ := Aside0.mk (Kd.R_elder' (zr HO365) (Kd.R_base ho0) hb); have n2_ := Aside0.mk (Kd.R_below (zr HO368) hb); have n3_ := Aside0.mk (Kd.R_below (zr HO371) hb); have HO374 := Aside0.mk (Kd.R_lower (Kd.R_new' ho0 (Kd.R_lt (zr HO365))) (below_size (by repeat (first | (with_reducible first | exact HB.out | apply below_alloc | apply pw_below_drewN | apply below_drew1 | refine below_set ?_ GE349.out | refine below_set ?_ GE350.out) | exact HB.out)))); replace BK349 := zb BK349 hb; replace BK350 := zb BK350 hb; replace HB := zB HB hb; clear HO360 HO365 HO368 HO371; have HO360 := n0_; have HO365 := n1_; have HO368 := n2_; have HO371 := n3_; clear n0_ n1_ n2_ n3_; (try clear hb); (try clear ho0)))
      have n0_ := Aside0.mk (Kd.R_drew HO360.out)
      have n1_ := Aside0.mk (Kd.R_drew HO365.out)
      have n2_ := Aside0.mk (Kd.R_drew HO368.out)
      have n3_ := Aside0.mk (Kd.R_drew HO371.out)
      have n4_ := Aside0.mk (Kd.R_drew HO374.out)
      have n5_ := Aside0.mk (blk_drew BK349.out)
      have n6_ := Aside0.mk (blk_drew BK350.out)
      have n7_ := Aside0.mk (below_drew1 HB.out)
      clear HO360 HO365 HO368 HO371 HO374 BK349 BK350 HB
      have HO360 := n0_
      have HO365 := n1_
      have HO368 := n2_
      have HO371 := n3_
      have HO374 := n4_
      have BK349 := n5_
      have BK350 := n6_
      have HB := n7_
      clear n0_ n1_ n2_ n3_ n4_ n5_ n6_ n7_
      refine start_ (n := 8) (S := fun w' => w'.cell? ⟨gb349, 0, none⟩ = some (.int .i64 a0_0) ∧ w'.cell? ⟨gb349, 1, none⟩ = some (.int .i64 a0_1) ∧ w'.cell? ⟨gb349, 2, none⟩ = some (.int .i64 a0_2) ∧ w'.cell? ⟨gb349, 3, none⟩ = some (.int .i64 a0_3) ∧ w'.cell? ⟨gb349, 4, none⟩ = some (.int .i64 a0_4) ∧ w'.cell? ⟨gb350, 0, none⟩ = some (.int .i64 a2_0) ∧ w'.cell? ⟨gb350, 1, none⟩ = some (.int .i64 a2_1)) (ds := []) #[false, false, false, false, false, false, false, false] (by kernel_rfl) rfl rfl ⟨zc BK349 0, zc BK349 1, zc BK349 2, zc BK349 3, zc BK349 4, zc BK350 0, zc BK350 1⟩ (fun hHeld => ?_); refine with_tabW laws_FnExactRun.tab11 laws_FnExactRun.bits11 (fun HT_ HW_ => ?_)
      generalize w45.drew = w46 at HO360 HO365 HO368 HO371 HO374 BK349 BK350 HB hHeld ⊢
      refine zp 2 43 (zm 8 4) HT_ ?_
      refine zp 5 46 (zm 8 36) HT_ ?_
      refine zt 0 41 (zm 8 37) HT_ HW_ hHeld ?_
      refine zt 3 44 (zm 8 45) HT_ HW_ hHeld ?_
      refine zo 1 (some 42) (zm 8 47) HT_ (fun K hK => ?_)
      refine zG Try.func19 #[.agg #[.int .i64 a0_0, .int .i64 a0_1, .int .i64 a0_2, .int .i64 a0_3, .int .i64 a0_4]] ?_
      with_reducible refine (laws_toRules.calls a0_0 a0_1 a0_2 a0_3 a0_4 t375 t376 t377 t378 t379 _ A20.out).mono ?_
      rintro e w47 ⟨rfl, hb⟩
      refine ⟨_, rfl, ?_⟩
      have n0_ := Aside0.mk (Kd.R_below (zr HO360) hb)
      have n1_ := Aside0.mk (Kd.R_below (zr HO365) hb)
      have n2_ := Aside0.mk (Kd.R_below (zr HO368) hb)
      have n3_ := Aside0.mk (Kd.R_below (zr HO371) hb)
      have n4_ := Aside0.mk (Kd.R_below (zr HO374) hb)
      replace BK349 := zb BK349 hb
      replace BK350 := zb BK350 hb
      replace HB := zB HB hb
      clear HO360 HO365 HO368 HO371 HO374
      have HO360 := n0_
      have HO365 := n1_
      have HO368 := n2_
      have HO371 := n3_
      have HO374 := n4_
      clear n0_ n1_ n2_ n3_ n4_
      (try clear hb)
      refine hK.out _ _ ⟨zc BK349 0, zc BK349 1, zc BK349 2, zc BK349 3, zc BK349 4, zc BK350 0, zc BK350 1⟩ (fun hHeld => ?_)
      clear hK K
      refine zn 42 ?_
      refine zo 4 (some 45) (zm 8 63) HT_ (fun K hK => ?_)
      refine zG Try.func27 #[.agg #[.int .i64 a2_0, .int .i64 a2_1]] ?_
      with_reducible refine (laws_toBound.calls a2_0 a2_1 t380 t381 _ A21.out).mono ?_
      rintro e w48 ⟨rfl, hb⟩
      refine ⟨_, rfl, ?_⟩
      have n0_ := Aside0.mk (Kd.R_below (zr HO360) hb)
      have n1_ := Aside0.mk (Kd.R_below (zr HO365) hb)
      have n2_ := Aside0.mk (Kd.R_below (zr HO368) hb)
      have n3_ := Aside0.mk (Kd.R_below (zr HO371) hb)
      have n4_ := Aside0.mk (Kd.R_below (zr HO374) hb)
      replace BK349 := zb BK349 hb
      replace BK350 := zb BK350 hb
      replace HB := zB HB hb
      clear HO360 HO365 HO368 HO371 HO374
      have HO360 := n0_
      have HO365 := n1_
      have HO368 := n2_
      have HO371 := n3_
      have HO374 := n4_
      clear n0_ n1_ n2_ n3_ n4_
      (try clear hb)
      obtain ⟨Ao49, co49, eo49⟩ := Kd.R_slice HO371.out
      (first | subst eo49 | (injection eo49 with f1_ f2_ f3_; have f4_ := f1_.symm; have f5_ := f3_.symm; clear f1_ f2_ f3_; subst f4_; subst f5_))
      obtain ⟨Ao50, co50, eo50⟩ := Kd.R_slice HO374.out
      (first | subst eo50 | (injection eo50 with f1_ f2_ f3_; have f4_ := f1_.symm; have f5_ := f3_.symm; clear f1_ f2_ f3_; subst f4_; subst f5_))
      refine hK.out _ _ ⟨zc BK349 0, zc BK349 1, zc BK349 2, zc BK349 3, zc BK349 4, zc BK350 0, zc BK350 1⟩ (fun hHeld => ?_)
      clear hK K
      refine zn 45 ?_
      refine zo 6 (some 47) (zm 8 127) HT_ (fun K hK => ?_)
      refine zG Try.func29 #[.agg #[.int .i64 t375, .int .i64 t376, .int .i64 t377, .int .i64 t378, .int .i64 t379], .slice Ao49 t369.length co49, .agg #[.int .i64 t380, .int .i64 t381], .slice Ao50 t372.length co50] ?_
      with_reducible refine (impl_Run.calls k t375 t376 t377 t378 t379 _ _ t369 t380 t381 _ _ t372 t382 _ ?side1 ?side2 ?side3 ?side4 A22.out).mono ?_
      (case side1 => repeat (first | exact (Kd.R_reads' HO371.out).2.2 | (with_reducible refine Kd.C_alloc ?_ _) | (with_reducible refine Kd.C_drewN ?_ _) | (with_reducible refine Kd.C_drew ?_)))
      (case side2 => exact (Kd.R_reads' HO371.out).2.1)
      (case side3 => repeat (first | exact (Kd.R_reads' HO374.out).2.2 | (with_reducible refine Kd.C_alloc ?_ _) | (with_reducible refine Kd.C_drewN ?_ _) | (with_reducible refine Kd.C_drew ?_)))
      (case side4 => exact (Kd.R_reads' HO374.out).2.1)
      rintro e w51 ⟨v383, rfl, ho0, hb⟩
      refine ⟨_, rfl, ?_⟩
      have n0_ := Aside0.mk (Kd.R_below (zr HO360) hb)
      have n1_ := Aside0.mk (Kd.R_below (zr HO365) hb)
      have n2_ := Aside0.mk (Kd.R_elder' (zr HO368) (Kd.R_base ho0) hb)
      have n3_ := Aside0.mk (Kd.R_below (zr HO371) hb)
      have n4_ := Aside0.mk (Kd.R_below (zr HO374) hb)
      have HO384 := Aside0.mk (Kd.R_lower (Kd.R_new' ho0 (Kd.R_lt (zr HO368))) (below_size (by repeat (first | (with_reducible first | exact HB.out | apply below_alloc | apply pw_below_drewN | apply below_drew1 | refine below_set ?_ GE349.out | refine below_set ?_ GE350.out) | exact HB.out))))
      replace BK349 := zb BK349 hb
      replace BK350 := zb BK350 hb
      replace HB := zB HB hb
      clear HO360 HO365 HO368 HO371 HO374
      have HO360 := n0_
      have HO365 := n1_
      have HO368 := n2_
      have HO371 := n3_
      have HO374 := n4_
      clear n0_ n1_ n2_ n3_ n4_
      (try clear hb)
      (try clear ho0)
      refine hK.out _ _ ⟨zc BK349 0, zc BK349 1, zc BK349 2, zc BK349 3, zc BK349 4, zc BK350 0, zc BK350 1⟩ (fun hHeld => ?_)
      clear hK K
      refine zn 47 ?_
      refine zp 7 13 (zm 8 255) HT_ ?_
      refine done_ (done_of HT_.out (by kernel_rfl)) ?_
      obtain ⟨Ao52, co52, eo52⟩ := Kd.R_slice HO384.out
      subst eo52
      obtain ⟨Ao53, co53, eo53⟩ := Kd.R_slice HO368.out
      subst eo53
      go_upto_region 21 with (first | ((with_reducible refine gate_callee (f := 30) rfl ?_); refine zL (some 50) Try.func30 #[.slice Ao52 t382.length co52, .slice Ao53 t366.length co53] ?_; (with_reducible refine (laws_eqStateS.calls k _ _ t382 _ _ t366 true _ ?side1 ?side2 ?side3 ?side4 A23.out).mono ?_); (case side1 => repeat (first | exact (Kd.R_reads' HO384.out).2.2 | (with_reducible refine Kd.C_alloc ?_ _) | (with_reducible refine Kd.C_drewN ?_ _) | (with_reducible refine Kd.C_drew ?_))); (case side2 => exact (Kd.R_reads' HO384.out).2.1); (case side3 => repeat (first | exact (Kd.R_reads' HO368.out).2.2 | (with_reducible refine Kd.C_alloc ?_ _) | (with_reducible refine Kd.C_drewN ?_ _) | (with_reducible refine Kd.C_drew ?_))); (case side4 => exact (Kd.R_reads' HO368.out).2.1); rintro e w54 ⟨rfl, hb⟩; refine ⟨_, rfl, ?_⟩; have n0_ := Aside0.mk (Kd.R_below (zr HO360) hb); have n1_ := Aside0.mk (Kd.R_below (zr HO365) hb); have n2_ := Aside0.mk (Kd.R_below (zr HO368) hb); have n3_ := Aside0.mk (Kd.R_below (zr HO371) hb); have n4_ := Aside0.mk (Kd.R_below (zr HO374) hb); have n5_ := Aside0.mk (Kd.R_below (zr HO384) hb); replace BK349 := zb BK349 hb; replace BK350 := zb BK350 hb; replace HB := zB HB hb; clear HO360 HO365 HO368 HO371 HO374 HO384; have HO360 := n0_; have HO365 := n1_; have HO368 := n2_; have HO371 := n3_; have HO374 := n4_; have HO384 := n5_; clear n0_ n1_ n2_ n3_ n4_ n5_; (try clear hb)) | ((with_reducible refine gate_callee (f := 20) rfl ?_); refine zL (some 54) Try.func20 #[.slice A1 l1.length c1] ?_; (with_reducible refine (laws_toMarkS.calls k _ _ l1 t386 _ ?side1 ?side2 A25.out).mono ?_); (case side1 => repeat (first | exact (Kd.C_below HR1.out HB.out) | (with_reducible refine Kd.C_alloc ?_ _) | (with_reducible refine Kd.C_drewN ?_ _) | (with_reducible refine Kd.C_drew ?_))); (case side2 => exact HC1.out); rintro e w55 ⟨v387, rfl, ho0, hb⟩; refine ⟨_, rfl, ?_⟩; have n0_ := Aside0.mk (Kd.R_elder' (zr HO360) (Kd.R_base ho0) hb); have n1_ := Aside0.mk (Kd.R_below (zr HO365) hb); have n2_ := Aside0.mk (Kd.R_below (zr HO368) hb); have n3_ := Aside0.mk (Kd.R_elder' (zr HO371) (Kd.R_base ho0) hb); have n4_ := Aside0.mk (Kd.R_below (zr HO374) hb); have n5_ := Aside0.mk (Kd.R_below (zr HO384) hb); have HO388 := Aside0.mk (Kd.R_lower (Kd.R_new' (Kd.R_new' ho0 (Kd.R_lt (zr HO360))) (Kd.R_lt (zr HO371))) (below_size (by repeat (first | (with_reducible first | exact HB.out | apply below_alloc | apply pw_below_drewN | apply below_drew1 | refine below_set ?_ GE349.out | refine below_set ?_ GE350.out) | exact HB.out)))); replace BK349 := zb BK349 hb; replace BK350 := zb BK350 hb; replace HB := zB HB hb; clear HO360 HO365 HO368 HO371 HO374 HO384; have HO360 := n0_; have HO365 := n1_; have HO368 := n2_; have HO371 := n3_; have HO374 := n4_; have HO384 := n5_; clear n0_ n1_ n2_ n3_ n4_ n5_; (try clear hb); (try clear ho0); obtain ⟨Ao56, co56, eo56⟩ := Kd.R_slice HO388.out; subst eo56) | ((with_reducible refine gate_callee (f := 24) rfl ?_); refine zL (some 55) Try.func24 #[.slice Ao49 t369.length co49, .slice Ao56 t386.length co56] ?_; (with_reducible refine (laws_eqMarkS.calls k _ _ t369 _ _ t386 true _ ?side1 ?side2 ?side3 ?side4 A26.out).mono ?_); (case side1 => repeat (first | exact (Kd.R_reads' HO371.out).2.2 | (with_reducible refine Kd.C_alloc ?_ _) | (with_reducible refine Kd.C_drewN ?_ _) | (with_reducible refine Kd.C_drew ?_))); (case side2 => exact (Kd.R_reads' HO371.out).2.1); (case side3 => repeat (first | exact (Kd.R_reads' HO388.out).2.2 | (with_reducible refine Kd.C_alloc ?_ _) | (with_reducible refine Kd.C_drewN ?_ _) | (with_reducible refine Kd.C_drew ?_))); (case side4 => exact (Kd.R_reads' HO388.out).2.1); rintro e w57 ⟨rfl, hb⟩; refine ⟨_, rfl, ?_⟩; have n0_ := Aside0.mk (Kd.R_below (zr HO360) hb); have n1_ := Aside0.mk (Kd.R_below (zr HO365) hb); have n2_ := Aside0.mk (Kd.R_below (zr HO368) hb); have n3_ := Aside0.mk (Kd.R_below (zr HO371) hb); have n4_ := Aside0.mk (Kd.R_below (zr HO374) hb); have n5_ := Aside0.mk (Kd.R_below (zr HO384) hb); have n6_ := Aside0.mk (Kd.R_below (zr HO388) hb); replace BK349 := zb BK349 hb; replace BK350 := zb BK350 hb; replace HB := zB HB hb; clear HO360 HO365 HO368 HO371 HO374 HO384 HO388; have HO360 := n0_; have HO365 := n1_; have HO368 := n2_; have HO371 := n3_; have HO374 := n4_; have HO384 := n5_; have HO388 := n6_; clear n0_ n1_ n2_ n3_ n4_ n5_ n6_; (try clear hb)) | ((with_reducible refine gate_callee (f := 28) rfl ?_); refine zL (some 59) Try.func28 #[.slice A3 l3.length c3] ?_; (with_reducible refine (laws_toEventS.calls k _ _ l3 t390 _ ?side1 ?side2 A28.out).mono ?_); (case side1 => repeat (first | exact (Kd.C_below HR3.out HB.out) | (with_reducible refine Kd.C_alloc ?_ _) | (with_reducible refine Kd.C_drewN ?_ _) | (with_reducible refine Kd.C_drew ?_))); (case side2 => exact HC3.out); rintro e w58 ⟨v391, rfl, ho0, hb⟩; refine ⟨_, rfl, ?_⟩; have n0_ := Aside0.mk (Kd.R_below (zr HO360) hb); have n1_ := Aside0.mk (Kd.R_elder' (zr HO365) (Kd.R_base ho0) hb); have n2_ := Aside0.mk (Kd.R_below (zr HO368) hb); have n3_ := Aside0.mk (Kd.R_below (zr HO371) hb); have n4_ := Aside0.mk (Kd.R_elder' (zr HO374) (Kd.R_base ho0) hb); have n5_ := Aside0.mk (Kd.R_below (zr HO384) hb); have n6_ := Aside0.mk (Kd.R_below (zr HO388) hb); have HO392 := Aside0.mk (Kd.R_lower (Kd.R_new' (Kd.R_new' ho0 (Kd.R_lt (zr HO365))) (Kd.R_lt (zr HO374))) (below_size (by repeat (first | (with_reducible first | exact HB.out | apply below_alloc | apply pw_below_drewN | apply below_drew1 | refine below_set ?_ GE349.out | refine below_set ?_ GE350.out) | exact HB.out)))); replace BK349 := zb BK349 hb; replace BK350 := zb BK350 hb; replace HB := zB HB hb; clear HO360 HO365 HO368 HO371 HO374 HO384 HO388; have HO360 := n0_; have HO365 := n1_; have HO368 := n2_; have HO371 := n3_; have HO374 := n4_; have HO384 := n5_; have HO388 := n6_; clear n0_ n1_ n2_ n3_ n4_ n5_ n6_; (try clear hb); (try clear ho0); obtain ⟨Ao59, co59, eo59⟩ := Kd.R_slice HO392.out; subst eo59) | ((with_reducible refine gate_callee (f := 31) rfl ?_); refine zL (some 60) Try.func31 #[.slice Ao50 t372.length co50, .slice Ao59 t390.length co59] ?_; (with_reducible refine (laws_eqEventS.calls k _ _ t372 _ _ t390 true _ ?side1 ?side2 ?side3 ?side4 A29.out).mono ?_); (case side1 => repeat (first | exact (Kd.R_reads' HO374.out).2.2 | (with_reducible refine Kd.C_alloc ?_ _) | (with_reducible refine Kd.C_drewN ?_ _) | (with_reducible refine Kd.C_drew ?_))); (case side2 => exact (Kd.R_reads' HO374.out).2.1); (case side3 => repeat (first | exact (Kd.R_reads' HO392.out).2.2 | (with_reducible refine Kd.C_alloc ?_ _) | (with_reducible refine Kd.C_drewN ?_ _) | (with_reducible refine Kd.C_drew ?_))); (case side4 => exact (Kd.R_reads' HO392.out).2.1); rintro e w60 ⟨rfl, hb⟩; refine ⟨_, rfl, ?_⟩; have n0_ := Aside0.mk (Kd.R_below (zr HO360) hb); have n1_ := Aside0.mk (Kd.R_below (zr HO365) hb); have n2_ := Aside0.mk (Kd.R_below (zr HO368) hb); have n3_ := Aside0.mk (Kd.R_below (zr HO371) hb); have n4_ := Aside0.mk (Kd.R_below (zr HO374) hb); have n5_ := Aside0.mk (Kd.R_below (zr HO384) hb); have n6_ := Aside0.mk (Kd.R_below (zr HO388) hb); have n7_ := Aside0.mk (Kd.R_below (zr HO392) hb); replace BK349 := zb BK349 hb; replace BK350 := zb BK350 hb; replace HB := zB HB hb; clear HO360 HO365 HO368 HO371 HO374 HO384 HO388 HO392; have HO360 := n0_; have HO365 := n1_; have HO368 := n2_; have HO371 := n3_; have HO374 := n4_; have HO384 := n5_; have HO388 := n6_; have HO392 := n7_; clear n0_ n1_ n2_ n3_ n4_ n5_ n6_ n7_; (try clear hb)) | ((with_reducible refine gate_callee (f := 32) rfl ?_); refine zL (some 64) Try.func32 #[.slice Ao49 t369.length co49, .int .i64 1] ?_; (with_reducible refine (laws_markMarkS.calls k (fun k_ => some k_ = (.slice Ao49 t369.length co49 : Value).ownBlock) (.slice Ao49 t369.length co49) t369 1 t394 t395 w _ ?side1 ?side2 A31.out).mono ?_); (case side1 => repeat (first | (with_reducible first | exact HB.out | apply below_alloc | apply pw_below_drewN | apply below_drew1 | refine below_set ?_ GE349.out | refine below_set ?_ GE350.out) | exact HB.out)); (case side2 => exact Kd.R_tight rfl HO371.out); rintro e w61 ⟨rfl, hy0, hb, hkp⟩; refine ⟨_, rfl, ?_⟩; have n0_ := Aside0.mk (blk_kept (zy BK349) hkp (fun hs_ => (fun e_ => (Kd.R_ne HO371.out BK349.out (by decide)) e_) hs_)); have n1_ := Aside0.mk (blk_kept (zy BK350) hkp (fun hs_ => (fun e_ => (Kd.R_ne HO371.out BK350.out (by decide)) e_) hs_)); have n2_ := Aside0.mk (Kd.R_mono (ok' := fun k_ => some k_ ≠ (.slice Ao49 t369.length co49 : Value).ownBlock ∧ some k_ ≠ (.slice Ao56 t386.length co56 : Value).ownBlock) (Kd.R_keptB (HO360.out) hkp (fun k_ hk_ hs_ => (hk_.1.2) hs_)) (fun k_ hk_ => ⟨hk_.1.1.2, hk_.1.2⟩)); have n3_ := Aside0.mk (Kd.R_mono (ok' := fun k_ => some k_ ≠ (.slice Ao50 t372.length co50 : Value).ownBlock ∧ some k_ ≠ (.slice Ao59 t390.length co59 : Value).ownBlock) (Kd.R_keptB ((Kd.R_apart' HO365.out (Kd.R_typed HO371.out) (by decide))) hkp (fun k_ hk_ hs_ => (hk_.2) hs_)) (fun k_ hk_ => ⟨hk_.1.1.1.2, hk_.1.1.2⟩)); have n4_ := Aside0.mk (Kd.R_mono (ok' := fun k_ => some k_ ≠ (.slice Ao52 t382.length co52 : Value).ownBlock) (Kd.R_keptB ((Kd.R_apart' HO368.out (Kd.R_typed HO371.out) (by decide))) hkp (fun k_ hk_ hs_ => (hk_.2) hs_)) (fun k_ hk_ => hk_.1.1.2)); have n5_ := Aside0.mk (Kd.R_reok rfl hy0 (fun k_ e_ => HO371.out.1 k_ e_)); have n6_ := Aside0.mk (Kd.R_mono (ok' := fun k_ => some k_ ≠ (.slice Ao42 t363.length co42 : Value).ownBlock ∧ some k_ ≠ (.slice Ao59 t390.length co59 : Value).ownBlock) (Kd.R_keptB ((Kd.R_apart' HO374.out (Kd.R_typed HO371.out) (by decide))) hkp (fun k_ hk_ hs_ => (hk_.2) hs_)) (fun k_ hk_ => ⟨hk_.1.1.1.2, hk_.1.1.2⟩)); have n7_ := Aside0.mk (Kd.R_mono (ok' := fun k_ => some k_ ≠ (.slice Ao53 t366.length co53 : Value).ownBlock) (Kd.R_keptB ((Kd.R_apart' HO384.out (Kd.R_typed HO371.out) (by decide))) hkp (fun k_ hk_ hs_ => (hk_.2) hs_)) (fun k_ hk_ => hk_.1.1.2)); have n8_ := Aside0.mk (Kd.R_mono (ok' := fun k_ => some k_ ≠ (.slice Ao41 t358.length co41 : Value).ownBlock ∧ some k_ ≠ (.slice Ao49 t369.length co49 : Value).ownBlock) (Kd.R_keptB (HO388.out) hkp (fun k_ hk_ hs_ => (hk_.2) hs_)) (fun k_ hk_ => ⟨hk_.1.1.2, hk_.1.2⟩)); have n9_ := Aside0.mk (Kd.R_mono (ok' := fun k_ => some k_ ≠ (.slice Ao42 t363.length co42 : Value).ownBlock ∧ some k_ ≠ (.slice Ao50 t372.length co50 : Value).ownBlock) (Kd.R_keptB ((Kd.R_apart' HO392.out (Kd.R_typed HO371.out) (by decide))) hkp (fun k_ hk_ hs_ => (hk_.2) hs_)) (fun k_ hk_ => ⟨hk_.1.1.1.2, hk_.1.1.2⟩)); have n10_ := Aside0.mk (hb); clear BK349 BK350 HO360 HO365 HO368 HO371 HO374 HO384 HO388 HO392 HB; have BK349 := n0_; have BK350 := n1_; have HO360 := n2_; have HO365 := n3_; have HO368 := n4_; have HO371 := n5_; have HO374 := n6_; have HO384 := n7_; have HO388 := n8_; have HO392 := n9_; have HB := n10_; clear n0_ n1_ n2_ n3_ n4_ n5_ n6_ n7_ n8_ n9_ n10_; (try clear hb); (try clear hkp); (try clear hy0)) | ((with_reducible refine gate_callee (f := 33) rfl ?_); refine zL (some 67) Try.func33 #[.slice Ao50 t372.length co50, .int .i64 t394] ?_; (with_reducible refine (laws_markEventS.calls k (fun k_ => some k_ = (.slice Ao50 t372.length co50 : Value).ownBlock) (.slice Ao50 t372.length co50) t372 t394 t396 t397 w _ ?side1 ?side2 A32.out).mono ?_); (case side1 => repeat (first | (with_reducible first | exact HB.out | apply below_alloc | apply pw_below_drewN | apply below_drew1 | refine below_set ?_ GE349.out | refine below_set ?_ GE350.out) | exact HB.out)); (case side2 => exact Kd.R_tight rfl HO374.out); rintro e w62 ⟨rfl, hy0, hb, hkp⟩; refine ⟨_, rfl, ?_⟩; have n0_ := Aside0.mk (blk_kept (zy BK349) hkp (fun hs_ => (fun e_ => (Kd.R_ne HO374.out BK349.out (by decide)) e_) hs_)); have n1_ := Aside0.mk (blk_kept (zy BK350) hkp (fun hs_ => (fun e_ => (Kd.R_ne HO374.out BK350.out (by decide)) e_) hs_)); have n2_ := Aside0.mk (Kd.R_mono (ok' := fun k_ => some k_ ≠ (.slice Ao49 t369.length co49 : Value).ownBlock ∧ some k_ ≠ (.slice Ao56 t386.length co56 : Value).ownBlock) (Kd.R_keptB ((Kd.R_apart' HO360.out (Kd.R_typed HO374.out) (by decide))) hkp (fun k_ hk_ hs_ => (hk_.2) hs_)) (fun k_ hk_ => ⟨hk_.1.1.1, hk_.1.1.2⟩)); have n3_ := Aside0.mk (Kd.R_mono (ok' := fun k_ => some k_ ≠ (.slice Ao50 t372.length co50 : Value).ownBlock ∧ some k_ ≠ (.slice Ao59 t390.length co59 : Value).ownBlock) (Kd.R_keptB (HO365.out) hkp (fun k_ hk_ hs_ => (hk_.1) hs_)) (fun k_ hk_ => ⟨hk_.1.1, hk_.1.2⟩)); have n4_ := Aside0.mk (Kd.R_mono (ok' := fun k_ => some k_ ≠ (.slice Ao52 t382.length co52 : Value).ownBlock) (Kd.R_keptB ((Kd.R_apart' HO368.out (Kd.R_typed HO374.out) (by decide))) hkp (fun k_ hk_ hs_ => (hk_.2) hs_)) (fun k_ hk_ => hk_.1.1)); have n5_ := Aside0.mk (Kd.R_mono (ok' := fun k_ => some k_ ≠ (.slice Ao41 t358.length co41 : Value).ownBlock ∧ some k_ ≠ (.slice Ao56 t386.length co56 : Value).ownBlock) (Kd.R_keptB ((Kd.R_apart' HO371.out (Kd.R_typed HO374.out) (by decide))) hkp (fun k_ hk_ hs_ => (hk_.2) hs_)) (fun k_ hk_ => ⟨hk_.1.1.1.2, hk_.1.1.2⟩)); have n6_ := Aside0.mk (Kd.R_reok rfl hy0 (fun k_ e_ => HO374.out.1 k_ e_)); have n7_ := Aside0.mk (Kd.R_mono (ok' := fun k_ => some k_ ≠ (.slice Ao53 t366.length co53 : Value).ownBlock) (Kd.R_keptB ((Kd.R_apart' HO384.out (Kd.R_typed HO374.out) (by decide))) hkp (fun k_ hk_ hs_ => (hk_.2) hs_)) (fun k_ hk_ => hk_.1.1)); have n8_ := Aside0.mk (Kd.R_mono (ok' := fun k_ => some k_ ≠ (.slice Ao41 t358.length co41 : Value).ownBlock ∧ some k_ ≠ (.slice Ao49 t369.length co49 : Value).ownBlock) (Kd.R_keptB ((Kd.R_apart' HO388.out (Kd.R_typed HO374.out) (by decide))) hkp (fun k_ hk_ hs_ => (hk_.2) hs_)) (fun k_ hk_ => ⟨hk_.1.1.1, hk_.1.1.2⟩)); have n9_ := Aside0.mk (Kd.R_mono (ok' := fun k_ => some k_ ≠ (.slice Ao42 t363.length co42 : Value).ownBlock ∧ some k_ ≠ (.slice Ao50 t372.length co50 : Value).ownBlock) (Kd.R_keptB (HO392.out) hkp (fun k_ hk_ hs_ => (hk_.2) hs_)) (fun k_ hk_ => ⟨hk_.1.1, hk_.1.2⟩)); have n10_ := Aside0.mk (hb); clear BK349 BK350 HO360 HO365 HO368 HO371 HO374 HO384 HO388 HO392 HB; have BK349 := n0_; have BK350 := n1_; have HO360 := n2_; have HO365 := n3_; have HO368 := n4_; have HO371 := n5_; have HO374 := n6_; have HO384 := n7_; have HO388 := n8_; have HO392 := n9_; have HB := n10_; clear n0_ n1_ n2_ n3_ n4_ n5_ n6_ n7_ n8_ n9_ n10_; (try clear hb); (try clear hkp); (try clear hy0)))
      (try simp only [Act.put, List.setIfInBounds_toArray, List.set_cons_zero, List.set_cons_succ])
      go_cut [75] (fun v75 wc => ∃ (kq : Nat) (x75_32 : Bool), v75 = .bool x75_32 ∧ Aside0 (laws_FnExactRun.j0 kq l1 l3 t366 t382 x75_32 a0_0 a0_1 a0_2 a0_3 a0_4 a2_0 a2_1 = some r) ∧ Aside0 (kq ≤ k) ∧ Aside0 (Kd.R k29 29 wc w.heap.size (fun k_ => some k_ ≠ ((.slice Ao52 t382.length co52) : Value).ownBlock) (.slice Ao53 t366.length co53) t366) ∧ Aside0 (Kd.R k29 29 wc w.heap.size (fun k_ => some k_ ≠ ((.slice Ao53 t366.length co53) : Value).ownBlock) (.slice Ao52 t382.length co52) t382) ∧ Aside0 (wc.heap[gb349]? = some (.cells #[.int .i64 a0_0, .int .i64 a0_1, .int .i64 a0_2, .int .i64 a0_3, .int .i64 a0_4] 39 (0, 0))) ∧ Aside0 (wc.heap[gb350]? = some (.cells #[.int .i64 a2_0, .int .i64 a2_1] 41 (0, 0))) ∧ Aside0 (Below w.heap.size w wc))
      case first =>
       have H := HC33.out
       clear HC33
       by_cases c63 : t396 < 0
       ·rw [if_pos c63] at H
        have c63b0 : decide (t396 < 0) = true := decide_eq_true c63
        clear c63
        (first | rw [c63b0] | (simp only [i64_w, i32_w]; rw [c63b0]) | skip)
        have H' := Aside0.mk H
        clear H
        go_wp2
        go_meet
        case rel => exact ⟨_, (true), ze, H', ⟨by first | omega | exact Nat.le_refl _⟩, ⟨zr HO368⟩, ⟨zr HO384⟩, ⟨zy BK349⟩, ⟨zy BK350⟩, ⟨by repeat (first | (with_reducible first | exact HB.out | apply below_alloc | apply pw_below_drewN | apply below_drew1 | refine below_set ?_ GE349.out | refine below_set ?_ GE350.out) | exact HB.out)⟩⟩
       ·rw [if_neg c63] at H
        have c63b0 : decide (t396 < 0) = false := decide_eq_false c63
        clear c63
        (first | rw [c63b0] | (simp only [i64_w, i32_w]; rw [c63b0]) | skip)
        replace H := Option.bind_eq_some_iff.mp H
        obtain ⟨t398, A640, H⟩ := H
        replace H : (laws_FnExactRun.j0 k l1 l3 t366 t382 (!t398) a0_0 a0_1 a0_2 a0_3 a0_4 a2_0 a2_1) = some r := H
        have A64 := Aside0.mk A640
        clear A640
        have H' := Aside0.mk H
        clear H
        go_wp2_with (first | (go_at_call 30; (with_reducible refine (laws_eqStateS.calls k _ _ t382 _ _ t366 t398 _ ?side1 ?side2 ?side3 ?side4 A64.out).mono ?_); (case side1 => repeat (first | exact (Kd.R_reads' HO384.out).2.2 | (with_reducible refine Kd.C_alloc ?_ _) | (with_reducible refine Kd.C_drewN ?_ _) | (with_reducible refine Kd.C_drew ?_))); (case side2 => exact (Kd.R_reads' HO384.out).2.1); (case side3 => repeat (first | exact (Kd.R_reads' HO368.out).2.2 | (with_reducible refine Kd.C_alloc ?_ _) | (with_reducible refine Kd.C_drewN ?_ _) | (with_reducible refine Kd.C_drew ?_))); (case side4 => exact (Kd.R_reads' HO368.out).2.1); rintro e w65 ⟨rfl, hb⟩; have n0_ := Aside0.mk (Kd.R_below (zr HO360) hb); have n1_ := Aside0.mk (Kd.R_below (zr HO365) hb); have n2_ := Aside0.mk (Kd.R_below (zr HO368) hb); have n3_ := Aside0.mk (Kd.R_below (zr HO371) hb); have n4_ := Aside0.mk (Kd.R_below (zr HO374) hb); have n5_ := Aside0.mk (Kd.R_below (zr HO384) hb); have n6_ := Aside0.mk (Kd.R_below (zr HO388) hb); have n7_ := Aside0.mk (Kd.R_below (zr HO392) hb); replace BK349 := zb BK349 hb; replace BK350 := zb BK350 hb; replace HB := zB HB hb; clear HO360 HO365 HO368 HO371 HO374 HO384 HO388 HO392; have HO360 := n0_; have HO365 := n1_; have HO368 := n2_; have HO371 := n3_; have HO374 := n4_; have HO384 := n5_; have HO388 := n6_; have HO392 := n7_; clear n0_ n1_ n2_ n3_ n4_ n5_ n6_ n7_; (try clear hb)))
        go_meet
        case rel => exact ⟨_, (!t398), ze, H', ⟨by first | omega | exact Nat.le_refl _⟩, ⟨zr HO368⟩, ⟨zr HO384⟩, ⟨zy BK349⟩, ⟨zy BK350⟩, ⟨by repeat (first | (with_reducible first | exact HB.out | apply below_alloc | apply pw_below_drewN | apply below_drew1 | refine below_set ?_ GE349.out | refine below_set ?_ GE350.out) | exact HB.out)⟩⟩
      case rest =>
       clear HC33
       (try clear c1); (try clear c2); (try clear p2); (try clear c3); (try clear c5); (try clear c6); (try clear c6b0); (try clear c10); (try clear c10b0); (try clear c18); (try clear c19); (try clear c20); (try clear c24); (try clear c25); (try clear c26); (try clear c27); (try clear c28); (try clear c29); (try clear c30); (try clear c31); (try clear c32); (try clear c33); (try clear c63); (try clear c63b0)
       obtain ⟨kq, x75_32, rfl, HA, HJ32, HO_10, HO_13, BK349, BK350, HB⟩ := hcut
       cases kq with
       | zero => exact absurd HA.out (by simp [laws_FnExactRun.j0])
       | succ kj32 =>
        have H := HA.out
        clear HA
        simp only [laws_FnExactRun.j0] at H
        by_cases c66 : x75_32 = true
        ·subst c66
         have H1 : (some false) = some r := by rw [if_pos rfl] at H; exact H
         clear H
         have H := H1
         clear H1
         exact absurd ((Option.some.inj H).trans HT.out) (by decide)
        ·replace c66 := Bool.eq_false_iff.mpr c66
         subst c66
         have H1 : ((laws_markStateS.f kj32 t382 1).bind fun bt399 => ((laws_heldStateS.f kj32 bt399.2 1).bind fun t401 => (if t401 < 0 then (some false) else (if t401 = bt399.1 then ((laws_toRules.f a0_0 a0_1 a0_2 a0_3 a0_4).bind fun bt402 => ((laws_toMarkS.f kj32 l1).bind fun t407 => ((laws_toBound.f a2_0 a2_1).bind fun bt410 => ((laws_toEventS.f kj32 l3).bind fun t412 => ((impl_Run.f kj32 bt402.1 bt402.2.1 bt402.2.2.1 bt402.2.2.2.1 bt402.2.2.2.2 t407 bt410.1 bt410.2 t412).bind fun t415 => ((laws_eqStateS.f kj32 t415 t366).bind fun t418 => (if t418 = true then ((laws_heldStateS.f kj32 bt399.2 1).bind fun t419 => (if t419 < 0 then (some false) else (if t419 = bt399.1 then (some true) else (some false)))) else (some false)))))))) else (some false))))) = some r := by rw [if_neg (show ¬ (false = true) by decide)] at H; exact H
         clear H
         have H := H1
         clear H1
         replace H := Option.bind_eq_some_iff.mp H
         obtain ⟨⟨t399, t400⟩, A670, H⟩ := H
         replace H : ((laws_heldStateS.f kj32 t400 1).bind fun t401 => (if t401 < 0 then (some false) else (if t401 = t399 then ((laws_toRules.f a0_0 a0_1 a0_2 a0_3 a0_4).bind fun bt402 => ((laws_toMarkS.f kj32 l1).bind fun t407 => ((laws_toBound.f a2_0 a2_1).bind fun bt410 => ((laws_toEventS.f kj32 l3).bind fun t412 => ((impl_Run.f kj32 bt402.1 bt402.2.1 bt402.2.2.1 bt402.2.2.2.1 bt402.2.2.2.2 t407 bt410.1 bt410.2 t412).bind fun t415 => ((laws_eqStateS.f kj32 t415 t366).bind fun t418 => (if t418 = true then ((laws_heldStateS.f kj32 t400 1).bind fun t419 => (if t419 < 0 then (some false) else (if t419 = t399 then (some true) else (some false)))) else (some false)))))))) else (some false)))) = some r := H
         have A67 := Aside0.mk A670
         clear A670
         replace H := Option.bind_eq_some_iff.mp H
         obtain ⟨t401, A680, H⟩ := H
         replace H : (if t401 < 0 then (some false) else (if t401 = t399 then ((laws_toRules.f a0_0 a0_1 a0_2 a0_3 a0_4).bind fun bt402 => ((laws_toMarkS.f kj32 l1).bind fun t407 => ((laws_toBound.f a2_0 a2_1).bind fun bt410 => ((laws_toEventS.f kj32 l3).bind fun t412 => ((impl_Run.f kj32 bt402.1 bt402.2.1 bt402.2.2.1 bt402.2.2.2.1 bt402.2.2.2.2 t407 bt410.1 bt410.2 t412).bind fun t415 => ((laws_eqStateS.f kj32 t415 t366).bind fun t418 => (if t418 = true then ((laws_heldStateS.f kj32 t400 1).bind fun t419 => (if t419 < 0 then (some false) else (if t419 = t399 then (some true) else (some false)))) else (some false)))))))) else (some false))) = some r := H
         have A68 := Aside0.mk A680
         clear A680
         by_cases c69 : t401 < 0
         ·rw [if_pos c69] at H
          have c69b0 : decide (t401 < 0) = true := decide_eq_true c69
          clear c69
          exact absurd ((Option.some.inj H).trans HT.out) (by decide)
         ·rw [if_neg c69] at H
          have c69b0 : decide (t401 < 0) = false := decide_eq_false c69
          clear c69
          by_cases c70 : t401 = t399
          ·rw [if_pos c70] at H
           have c70b0 : (t401 == t399) = true := beq_iff_eq.mpr c70
           have c70b1 : (t401 != t399) = false := bne_eq_false_iff_eq.mpr c70
           clear c70
           replace H := Option.bind_eq_some_iff.mp H
           obtain ⟨⟨t402, t403, t404, t405, t406⟩, A710, H⟩ := H
           replace H : ((laws_toMarkS.f kj32 l1).bind fun t407 => ((laws_toBound.f a2_0 a2_1).bind fun bt410 => ((laws_toEventS.f kj32 l3).bind fun t412 => ((impl_Run.f kj32 t402 t403 t404 t405 t406 t407 bt410.1 bt410.2 t412).bind fun t415 => ((laws_eqStateS.f kj32 t415 t366).bind fun t418 => (if t418 = true then ((laws_heldStateS.f kj32 t400 1).bind fun t419 => (if t419 < 0 then (some false) else (if t419 = t399 then (some true) else (some false)))) else (some false))))))) = some r := H
           have A71 := Aside0.mk A710
           clear A710
           replace H := Option.bind_eq_some_iff.mp H
           obtain ⟨t407, A720, H⟩ := H
           replace H : ((laws_toBound.f a2_0 a2_1).bind fun bt410 => ((laws_toEventS.f kj32 l3).bind fun t412 => ((impl_Run.f kj32 t402 t403 t404 t405 t406 t407 bt410.1 bt410.2 t412).bind fun t415 => ((laws_eqStateS.f kj32 t415 t366).bind fun t418 => (if t418 = true then ((laws_heldStateS.f kj32 t400 1).bind fun t419 => (if t419 < 0 then (some false) else (if t419 = t399 then (some true) else (some false)))) else (some false)))))) = some r := H
           have A72 := Aside0.mk A720
           clear A720
           replace H := Option.bind_eq_some_iff.mp H
           obtain ⟨⟨t410, t411⟩, A730, H⟩ := H
           replace H : ((laws_toEventS.f kj32 l3).bind fun t412 => ((impl_Run.f kj32 t402 t403 t404 t405 t406 t407 t410 t411 t412).bind fun t415 => ((laws_eqStateS.f kj32 t415 t366).bind fun t418 => (if t418 = true then ((laws_heldStateS.f kj32 t400 1).bind fun t419 => (if t419 < 0 then (some false) else (if t419 = t399 then (some true) else (some false)))) else (some false))))) = some r := H
           have A73 := Aside0.mk A730
           clear A730
           replace H := Option.bind_eq_some_iff.mp H
           obtain ⟨t412, A740, H⟩ := H
           replace H : ((impl_Run.f kj32 t402 t403 t404 t405 t406 t407 t410 t411 t412).bind fun t415 => ((laws_eqStateS.f kj32 t415 t366).bind fun t418 => (if t418 = true then ((laws_heldStateS.f kj32 t400 1).bind fun t419 => (if t419 < 0 then (some false) else (if t419 = t399 then (some true) else (some false)))) else (some false)))) = some r := H
           have A74 := Aside0.mk A740
           clear A740
           replace H := Option.bind_eq_some_iff.mp H
           obtain ⟨t415, A750, H⟩ := H
           replace H : ((laws_eqStateS.f kj32 t415 t366).bind fun t418 => (if t418 = true then ((laws_heldStateS.f kj32 t400 1).bind fun t419 => (if t419 < 0 then (some false) else (if t419 = t399 then (some true) else (some false)))) else (some false))) = some r := H
           have A75 := Aside0.mk A750
           clear A750
           replace H := Option.bind_eq_some_iff.mp H
           obtain ⟨t418, A760, H⟩ := H
           replace H : (if t418 = true then ((laws_heldStateS.f kj32 t400 1).bind fun t419 => (if t419 < 0 then (some false) else (if t419 = t399 then (some true) else (some false)))) else (some false)) = some r := H
           have A76 := Aside0.mk A760
           clear A760
           by_cases c77 : t418 = true
           ·subst c77
            have H1 : ((laws_heldStateS.f kj32 t400 1).bind fun t419 => (if t419 < 0 then (some false) else (if t419 = t399 then (some true) else (some false)))) = some r := by rw [if_pos rfl] at H; exact H
            clear H
            have H := H1
            clear H1
            replace H := Option.bind_eq_some_iff.mp H
            obtain ⟨t419, A780, H⟩ := H
            replace H : (if t419 < 0 then (some false) else (if t419 = t399 then (some true) else (some false))) = some r := H
            have A78 := Aside0.mk A780
            clear A780
            by_cases c79 : t419 < 0
            ·rw [if_pos c79] at H
             have c79b0 : decide (t419 < 0) = true := decide_eq_true c79
             clear c79
             exact absurd ((Option.some.inj H).trans HT.out) (by decide)
            ·rw [if_neg c79] at H
             have c79b0 : decide (t419 < 0) = false := decide_eq_false c79
             clear c79
             by_cases c80 : t419 = t399
             ·rw [if_pos c80] at H
              have c80b0 : (t419 == t399) = true := beq_iff_eq.mpr c80
              have c80b1 : (t419 != t399) = false := bne_eq_false_iff_eq.mpr c80
              clear c80
              obtain rfl := Option.some.inj H
              try go_wp2_with (first | ((with_reducible refine gate_callee (f := 34) rfl ?_); refine zL (some 78) Try.func34 #[.slice Ao52 t382.length co52, .int .i64 1] ?_; (with_reducible refine (laws_markStateS.calls kj32 (fun k_ => some k_ = (.slice Ao52 t382.length co52 : Value).ownBlock) (.slice Ao52 t382.length co52) t382 1 t399 t400 w _ ?side1 ?side2 A67.out).mono ?_); (case side1 => repeat (first | (with_reducible first | exact HB.out | apply below_alloc | apply pw_below_drewN | apply below_drew1 | refine below_set ?_ GE349.out | refine below_set ?_ GE350.out) | exact HB.out)); (case side2 => exact Kd.R_tight rfl HO_13.out); rintro e w81 ⟨rfl, hy0, hb, hkp⟩; refine ⟨_, rfl, ?_⟩; have n0_ := Aside0.mk (Kd.R_mono (ok' := fun k_ => some k_ ≠ (.slice Ao52 t382.length co52 : Value).ownBlock) (Kd.R_keptB (HO_10.out) hkp (fun k_ hk_ hs_ => (hk_) hs_)) (fun k_ hk_ => hk_.1)); have n1_ := Aside0.mk (Kd.R_reok rfl hy0 (fun k_ e_ => HO_13.out.1 k_ e_)); have n2_ := Aside0.mk (blk_kept (zy BK349) hkp (fun hs_ => (fun e_ => (Kd.R_ne HO_13.out BK349.out (by decide)) e_) hs_)); have n3_ := Aside0.mk (blk_kept (zy BK350) hkp (fun hs_ => (fun e_ => (Kd.R_ne HO_13.out BK350.out (by decide)) e_) hs_)); have n4_ := Aside0.mk (hb); clear HO_10 HO_13 BK349 BK350 HB; have HO_10 := n0_; have HO_13 := n1_; have BK349 := n2_; have BK350 := n3_; have HB := n4_; clear n0_ n1_ n2_ n3_ n4_; (try clear hb); (try clear hkp); (try clear hy0)) | ((with_reducible refine gate_callee (f := 35) rfl ?_); refine goesL_ (some 81) rfl rfl Try.func35 (by kernel_rfl) rfl #[.slice Ao52 t400.length co52, .int .i64 1] rfl (by (try simp only [List.map_toArray, List.map_cons, List.map_nil]); first | done | (rw [show t400.length = t382.length from (Kd.R_reads' HO_13.out).1.symm] <;> rfl) | rfl | (simp only [List.length_drop, List.length_take]; rfl)) ?_; (with_reducible refine (laws_heldStateS.calls kj32 _ _ t400 1 t401 _ ?side1 ?side2 A68.out).mono ?_); (case side1 => repeat (first | exact (Kd.R_reads' HO_13.out).2.2 | (with_reducible refine Kd.C_alloc ?_ _) | (with_reducible refine Kd.C_drewN ?_ _) | (with_reducible refine Kd.C_drew ?_))); (case side2 => rw [show t400.length = t382.length from (Kd.R_reads' HO_13.out).1.symm]; exact (Kd.R_reads' HO_13.out).2.1); rintro e w' ⟨rfl, ⟨nd, rfl⟩⟩; refine ⟨_, rfl, ?_⟩))
              (try (rw [drewN_self w81]; generalize hq_ : World.drewN w81 _ = w81; have n0_ : Aside0 (Kd.R k29 29 w81 w.heap.size (fun k_ => some k_ ≠ (.slice Ao52 t382.length co52 : Value).ownBlock) (.slice Ao53 t366.length co53) t366) := ⟨by rw [← hq_]; exact (zr HO_10)⟩; have n1_ : Aside0 (Kd.R k29 29 w81 w.heap.size (fun k_ => some k_ ≠ (.slice Ao53 t366.length co53 : Value).ownBlock) (.slice Ao52 t382.length co52) t400) := ⟨by rw [← hq_]; exact (zr HO_13)⟩; have n2_ : Aside0 (w81.heap[gb349]? = some (.cells #[.int .i64 a0_0, .int .i64 a0_1, .int .i64 a0_2, .int .i64 a0_3, .int .i64 a0_4] 39 (0, 0))) := ⟨by rw [← hq_]; exact (zy BK349)⟩; have n3_ : Aside0 (w81.heap[gb350]? = some (.cells #[.int .i64 a2_0, .int .i64 a2_1] 41 (0, 0))) := ⟨by rw [← hq_]; exact (zy BK350)⟩; have n4_ : Aside0 (Below w.heap.size w w81) := ⟨by rw [← hq_]; exact (by repeat (first | (with_reducible first | exact HB.out | apply below_alloc | apply pw_below_drewN | apply below_drew1 | refine below_set ?_ GE349.out | refine below_set ?_ GE350.out) | exact HB.out))⟩; clear HO_10 HO_13 BK349 BK350 HB hq_; have HO_10 := n0_; have HO_13 := n1_; have BK349 := n2_; have BK350 := n3_; have HB := n4_; clear n0_ n1_ n2_ n3_ n4_))
              have n0_ := Aside0.mk (Kd.R_drew HO_10.out)
              have n1_ := Aside0.mk (Kd.R_drew HO_13.out)
              have n2_ := Aside0.mk (blk_drew BK349.out)
              have n3_ := Aside0.mk (blk_drew BK350.out)
              have n4_ := Aside0.mk (below_drew1 HB.out)
              clear HO_10 HO_13 BK349 BK350 HB
              have HO_10 := n0_
              have HO_13 := n1_
              have BK349 := n2_
              have BK350 := n3_
              have HB := n4_
              clear n0_ n1_ n2_ n3_ n4_
              refine start_ (n := 10) (S := fun w' => w'.cell? ⟨gb349, 0, none⟩ = some (.int .i64 a0_0) ∧ w'.cell? ⟨gb349, 1, none⟩ = some (.int .i64 a0_1) ∧ w'.cell? ⟨gb349, 2, none⟩ = some (.int .i64 a0_2) ∧ w'.cell? ⟨gb349, 3, none⟩ = some (.int .i64 a0_3) ∧ w'.cell? ⟨gb349, 4, none⟩ = some (.int .i64 a0_4) ∧ w'.cell? ⟨gb350, 0, none⟩ = some (.int .i64 a2_0) ∧ w'.cell? ⟨gb350, 1, none⟩ = some (.int .i64 a2_1)) (ds := []) #[false, false, false, false, false, false, false, false, false, false] (by kernel_rfl) rfl rfl ⟨zc BK349 0, zc BK349 1, zc BK349 2, zc BK349 3, zc BK349 4, zc BK350 0, zc BK350 1⟩ (fun hHeld => ?_); refine with_tabW laws_FnExactRun.tab31 laws_FnExactRun.bits31 (fun HT_ HW_ => ?_)
              generalize w81.drew = w82 at HO_10 HO_13 BK349 BK350 HB hHeld ⊢
              refine zp 2 89 (zm 10 4) HT_ ?_
              refine zp 6 93 (zm 10 68) HT_ ?_
              refine zt 0 87 (zm 10 69) HT_ HW_ hHeld ?_
              refine zt 4 91 (zm 10 85) HT_ HW_ hHeld ?_
              refine zo 1 (some 88) (zm 10 87) HT_ (fun K hK => ?_)
              refine zG Try.func19 #[.agg #[.int .i64 a0_0, .int .i64 a0_1, .int .i64 a0_2, .int .i64 a0_3, .int .i64 a0_4]] ?_
              with_reducible refine (laws_toRules.calls a0_0 a0_1 a0_2 a0_3 a0_4 t402 t403 t404 t405 t406 _ A71.out).mono ?_
              rintro e w83 ⟨rfl, hb⟩
              refine ⟨_, rfl, ?_⟩
              have n0_ := Aside0.mk (Kd.R_below (zr HO_10) hb)
              have n1_ := Aside0.mk (Kd.R_below (zr HO_13) hb)
              replace BK349 := zb BK349 hb
              replace BK350 := zb BK350 hb
              replace HB := zB HB hb
              clear HO_10 HO_13
              have HO_10 := n0_
              have HO_13 := n1_
              clear n0_ n1_
              (try clear hb)
              refine hK.out _ _ ⟨zc BK349 0, zc BK349 1, zc BK349 2, zc BK349 3, zc BK349 4, zc BK350 0, zc BK350 1⟩ (fun hHeld => ?_)
              clear hK K
              refine zn 88 ?_
              refine zo 3 (some 90) (zm 10 95) HT_ (fun K hK => ?_)
              refine zG Try.func20 #[.slice A1 l1.length c1] ?_
              with_reducible refine (laws_toMarkS.calls kj32 _ _ l1 t407 _ ?side1 ?side2 A72.out).mono ?_
              (case side1 => repeat (first | exact (Kd.C_below HR1.out HB.out) | (with_reducible refine Kd.C_alloc ?_ _) | (with_reducible refine Kd.C_drewN ?_ _) | (with_reducible refine Kd.C_drew ?_)))
              (case side2 => exact HC1.out)
              rintro e w84 ⟨v408, rfl, ho0, hb⟩
              refine ⟨_, rfl, ?_⟩
              have n0_ := Aside0.mk (Kd.R_below (zr HO_10) hb)
              have n1_ := Aside0.mk (Kd.R_below (zr HO_13) hb)
              have HO409 := Aside0.mk (Kd.R_lower ho0 (below_size (by repeat (first | (with_reducible first | exact HB.out | apply below_alloc | apply pw_below_drewN | apply below_drew1 | refine below_set ?_ GE349.out | refine below_set ?_ GE350.out) | exact HB.out))))
              replace BK349 := zb BK349 hb
              replace BK350 := zb BK350 hb
              replace HB := zB HB hb
              clear HO_10 HO_13
              have HO_10 := n0_
              have HO_13 := n1_
              clear n0_ n1_
              (try clear hb)
              (try clear ho0)
              refine hK.out _ _ ⟨zc BK349 0, zc BK349 1, zc BK349 2, zc BK349 3, zc BK349 4, zc BK350 0, zc BK350 1⟩ (fun hHeld => ?_)
              clear hK K
              refine zn 90 ?_
              refine zo 5 (some 92) (zm 10 127) HT_ (fun K hK => ?_)
              refine zG Try.func27 #[.agg #[.int .i64 a2_0, .int .i64 a2_1]] ?_
              with_reducible refine (laws_toBound.calls a2_0 a2_1 t410 t411 _ A73.out).mono ?_
              rintro e w85 ⟨rfl, hb⟩
              refine ⟨_, rfl, ?_⟩
              have n0_ := Aside0.mk (Kd.R_below (zr HO_10) hb)
              have n1_ := Aside0.mk (Kd.R_below (zr HO_13) hb)
              have n2_ := Aside0.mk (Kd.R_below (zr HO409) hb)
              replace BK349 := zb BK349 hb
              replace BK350 := zb BK350 hb
              replace HB := zB HB hb
              clear HO_10 HO_13 HO409
              have HO_10 := n0_
              have HO_13 := n1_
              have HO409 := n2_
              clear n0_ n1_ n2_
              (try clear hb)
              refine hK.out _ _ ⟨zc BK349 0, zc BK349 1, zc BK349 2, zc BK349 3, zc BK349 4, zc BK350 0, zc BK350 1⟩ (fun hHeld => ?_)
              clear hK K
              refine zn 92 ?_
              refine zo 7 (some 94) (zm 10 255) HT_ (fun K hK => ?_)
              refine zG Try.func28 #[.slice A3 l3.length c3] ?_
              with_reducible refine (laws_toEventS.calls kj32 _ _ l3 t412 _ ?side1 ?side2 A74.out).mono ?_
              (case side1 => repeat (first | exact (Kd.C_below HR3.out HB.out) | (with_reducible refine Kd.C_alloc ?_ _) | (with_reducible refine Kd.C_drewN ?_ _) | (with_reducible refine Kd.C_drew ?_)))
              (case side2 => exact HC3.out)
              rintro e w86 ⟨v413, rfl, ho0, hb⟩
              refine ⟨_, rfl, ?_⟩
              have n0_ := Aside0.mk (Kd.R_below (zr HO_10) hb)
              have n1_ := Aside0.mk (Kd.R_below (zr HO_13) hb)
              have n2_ := Aside0.mk (Kd.R_below (zr HO409) hb)
              have HO414 := Aside0.mk (Kd.R_lower ho0 (below_size (by repeat (first | (with_reducible first | exact HB.out | apply below_alloc | apply pw_below_drewN | apply below_drew1 | refine below_set ?_ GE349.out | refine below_set ?_ GE350.out) | exact HB.out))))
              replace BK349 := zb BK349 hb
              replace BK350 := zb BK350 hb
              replace HB := zB HB hb
              clear HO_10 HO_13 HO409
              have HO_10 := n0_
              have HO_13 := n1_
              have HO409 := n2_
              clear n0_ n1_ n2_
              (try clear hb)
              (try clear ho0)
              obtain ⟨Ao87, co87, eo87⟩ := Kd.R_slice HO409.out
              (first | subst eo87 | (injection eo87 with f1_ f2_ f3_; have f4_ := f1_.symm; have f5_ := f3_.symm; clear f1_ f2_ f3_; subst f4_; subst f5_))
              obtain ⟨Ao88, co88, eo88⟩ := Kd.R_slice HO414.out
              (first | subst eo88 | (injection eo88 with f1_ f2_ f3_; have f4_ := f1_.symm; have f5_ := f3_.symm; clear f1_ f2_ f3_; subst f4_; subst f5_))
              refine hK.out _ _ ⟨zc BK349 0, zc BK349 1, zc BK349 2, zc BK349 3, zc BK349 4, zc BK350 0, zc BK350 1⟩ (fun hHeld => ?_)
              clear hK K
              refine zn 94 ?_
              refine zo 8 (some 95) (zm 10 511) HT_ (fun K hK => ?_)
              refine zG Try.func29 #[.agg #[.int .i64 t402, .int .i64 t403, .int .i64 t404, .int .i64 t405, .int .i64 t406], .slice Ao87 t407.length co87, .agg #[.int .i64 t410, .int .i64 t411], .slice Ao88 t412.length co88] ?_
              with_reducible refine (impl_Run.calls kj32 t402 t403 t404 t405 t406 _ _ t407 t410 t411 _ _ t412 t415 _ ?side1 ?side2 ?side3 ?side4 A75.out).mono ?_
              (case side1 => repeat (first | exact (Kd.R_reads' HO409.out).2.2 | (with_reducible refine Kd.C_alloc ?_ _) | (with_reducible refine Kd.C_drewN ?_ _) | (with_reducible refine Kd.C_drew ?_)))
              (case side2 => exact (Kd.R_reads' HO409.out).2.1)
              (case side3 => repeat (first | exact (Kd.R_reads' HO414.out).2.2 | (with_reducible refine Kd.C_alloc ?_ _) | (with_reducible refine Kd.C_drewN ?_ _) | (with_reducible refine Kd.C_drew ?_)))
              (case side4 => exact (Kd.R_reads' HO414.out).2.1)
              rintro e w89 ⟨v416, rfl, ho0, hb⟩
              refine ⟨_, rfl, ?_⟩
              have n0_ := Aside0.mk (Kd.R_elder' (zr HO_10) (Kd.R_base ho0) hb)
              have n1_ := Aside0.mk (Kd.R_elder' (zr HO_13) (Kd.R_base ho0) hb)
              have n2_ := Aside0.mk (Kd.R_below (zr HO409) hb)
              have n3_ := Aside0.mk (Kd.R_below (zr HO414) hb)
              have HO417 := Aside0.mk (Kd.R_lower (Kd.R_new' (Kd.R_new' ho0 (Kd.R_lt (zr HO_10))) (Kd.R_lt (zr HO_13))) (below_size (by repeat (first | (with_reducible first | exact HB.out | apply below_alloc | apply pw_below_drewN | apply below_drew1 | refine below_set ?_ GE349.out | refine below_set ?_ GE350.out) | exact HB.out))))
              replace BK349 := zb BK349 hb
              replace BK350 := zb BK350 hb
              replace HB := zB HB hb
              clear HO_10 HO_13 HO409 HO414
              have HO_10 := n0_
              have HO_13 := n1_
              have HO409 := n2_
              have HO414 := n3_
              clear n0_ n1_ n2_ n3_
              (try clear hb)
              (try clear ho0)
              refine hK.out _ _ ⟨zc BK349 0, zc BK349 1, zc BK349 2, zc BK349 3, zc BK349 4, zc BK350 0, zc BK350 1⟩ (fun hHeld => ?_)
              clear hK K
              refine zn 95 ?_
              refine zp 9 17 (zm 10 1023) HT_ ?_
              refine done_ (done_of HT_.out (by kernel_rfl)) ?_
              obtain ⟨Ao90, co90, eo90⟩ := Kd.R_slice HO417.out
              subst eo90
              try go_wp2_with (first | ((with_reducible refine gate_callee (f := 30) rfl ?_); refine zL (some 98) Try.func30 #[.slice Ao90 t415.length co90, .slice Ao53 t366.length co53] ?_; (with_reducible refine (laws_eqStateS.calls kj32 _ _ t415 _ _ t366 true _ ?side1 ?side2 ?side3 ?side4 A76.out).mono ?_); (case side1 => repeat (first | exact (Kd.R_reads' HO417.out).2.2 | (with_reducible refine Kd.C_alloc ?_ _) | (with_reducible refine Kd.C_drewN ?_ _) | (with_reducible refine Kd.C_drew ?_))); (case side2 => exact (Kd.R_reads' HO417.out).2.1); (case side3 => repeat (first | exact (Kd.R_reads' HO_10.out).2.2 | (with_reducible refine Kd.C_alloc ?_ _) | (with_reducible refine Kd.C_drewN ?_ _) | (with_reducible refine Kd.C_drew ?_))); (case side4 => exact (Kd.R_reads' HO_10.out).2.1); rintro e w91 ⟨rfl, hb⟩; refine ⟨_, rfl, ?_⟩; have n0_ := Aside0.mk (Kd.R_below (zr HO_10) hb); have n1_ := Aside0.mk (Kd.R_below (zr HO_13) hb); have n2_ := Aside0.mk (Kd.R_below (zr HO409) hb); have n3_ := Aside0.mk (Kd.R_below (zr HO414) hb); have n4_ := Aside0.mk (Kd.R_below (zr HO417) hb); replace BK349 := zb BK349 hb; replace BK350 := zb BK350 hb; replace HB := zB HB hb; clear HO_10 HO_13 HO409 HO414 HO417; have HO_10 := n0_; have HO_13 := n1_; have HO409 := n2_; have HO414 := n3_; have HO417 := n4_; clear n0_ n1_ n2_ n3_ n4_; (try clear hb)) | ((with_reducible refine gate_callee (f := 35) rfl ?_); refine goesL_ (some 102) rfl rfl Try.func35 (by kernel_rfl) rfl #[.slice Ao52 t400.length co52, .int .i64 1] rfl (by (try simp only [List.map_toArray, List.map_cons, List.map_nil]); first | done | (rw [show t400.length = t382.length from (Kd.R_reads' HO_13.out).1.symm] <;> rfl) | rfl | (simp only [List.length_drop, List.length_take]; rfl)) ?_; (with_reducible refine (laws_heldStateS.calls kj32 _ _ t400 1 t419 _ ?side1 ?side2 A78.out).mono ?_); (case side1 => repeat (first | exact (Kd.R_reads' HO_13.out).2.2 | (with_reducible refine Kd.C_alloc ?_ _) | (with_reducible refine Kd.C_drewN ?_ _) | (with_reducible refine Kd.C_drew ?_))); (case side2 => rw [show t400.length = t382.length from (Kd.R_reads' HO_13.out).1.symm]; exact (Kd.R_reads' HO_13.out).2.1); rintro e w' ⟨rfl, ⟨nd, rfl⟩⟩; refine ⟨_, rfl, ?_⟩))
              go_ret
              exact ⟨by first | rfl | (simp [errW_none, errW_some] <;> rfl) | (simp [*, errW_none, errW_some] <;> rfl), by repeat (first | (with_reducible first | exact HB.out | apply below_alloc | apply pw_below_drewN | apply below_drew1 | refine below_set ?_ GE349.out | refine below_set ?_ GE350.out) | exact HB.out)⟩
             ·rw [if_neg c80] at H
              have c80b0 : (t419 == t399) = false := beq_eq_false_iff_ne.mpr c80
              have c80b1 : (t419 != t399) = true := bne_iff_ne.mpr c80
              exact absurd ((Option.some.inj H).trans HT.out) (by decide)
           ·replace c77 := Bool.eq_false_iff.mpr c77
            subst c77
            have H1 : (some false) = some r := by rw [if_neg (show ¬ (false = true) by decide)] at H; exact H
            clear H
            have H := H1
            clear H1
            exact absurd ((Option.some.inj H).trans HT.out) (by decide)
          ·rw [if_neg c70] at H
           have c70b0 : (t401 == t399) = false := beq_eq_false_iff_ne.mpr c70
           have c70b1 : (t401 != t399) = true := bne_iff_ne.mpr c70
           exact absurd ((Option.some.inj H).trans HT.out) (by decide)
     ·replace c30 := Bool.eq_false_iff.mpr c30
      subst c30
      have H1 : (some false) = some r := by rw [if_neg (show ¬ (false = true) by decide)] at H; exact H
      clear H
      have H := H1
      clear H1
      exact absurd ((Option.some.inj H).trans HT.out) (by decide)
    ·replace c27 := Bool.eq_false_iff.mpr c27
     subst c27
     have H1 : (some false) = some r := by rw [if_neg (show ¬ (false = true) by decide)] at H; exact H
     clear H
     have H := H1
     clear H1
     exact absurd ((Option.some.inj H).trans HT.out) (by decide)
   ·replace c24 := Bool.eq_false_iff.mpr c24
    subst c24
    have H1 : (some false) = some r := by rw [if_neg (show ¬ (false = true) by decide)] at H; exact H
    clear H
    have H := H1
    clear H1
    exact absurd ((Option.some.inj H).trans HT.out) (by decide)

end Go.Proofs.Ytommdabkkgcgbaa.QFnExactRun
