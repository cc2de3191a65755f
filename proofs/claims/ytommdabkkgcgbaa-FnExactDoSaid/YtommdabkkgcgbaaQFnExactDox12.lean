-- Written by a program of this session (wip/tools/turnprint.py over the kit's print), for this claim: functions as plain Lean and their contracts.
import Derived.Test.YtommdabkkgcgbaaQFnExactDox0
import Derived.Test.YtommdabkkgcgbaaQFnExactDox6
import Derived.Test.YtommdabkkgcgbaaQFnExactDox10
import Derived.Test.YtommdabkkgcgbaaQFnExactDox11
namespace Go.Proofs.Ytommdabkkgcgbaa.QFnExactDo
open Go.RowKit Go.Proofs.YtommdabkkgcgbaaW.PrintWords Go.Proofs.YtommdabkkgcgbaaW.PrintLast Go.Proofs.YtommdabkkgcgbaaW.PrintMore
attribute [local go_sem] max2_int min2_int max_two min_two max_three min_three max_four min_four   -- for this text's walks alone
set_option linter.unusedVariables false
set_option linter.unusedSimpArgs false

/-! ### laws_FnExactDo: function 4 -/
def laws_FnExactDo.f (k : Nat) (a0_0 : Int) (a0_1 : Int) (a0_2 : Int) (a0_3 : Int) (a0_4 : Int) (l1 : List (S106)) (a2_0 : Bool) (a2_1 : Int) (a2_2 : Int) (a2_3 : Int) (a2_4 : Int) (a2_5 : Int) (a3_0 : Int) (a3_1 : Int) : Option (Bool) := (laws_szMarkS.f l1 1048576).bind fun t308 => (if t308 < 0 then (some true) else ((laws_toRules.f a0_0 a0_1 a0_2 a0_3 a0_4).bind fun bt309 => ((laws_toMarkS.f k l1).bind fun t314 => ((laws_toState.f a2_0 a2_1 a2_2 a2_3 a2_4 a2_5).bind fun bt317 => ((laws_toEvent.f a3_0 a3_1).bind fun bt323 => ((spec_Do.f k bt309.1 bt309.2.1 bt309.2.2.1 bt309.2.2.2.1 bt309.2.2.2.2 t314 bt317.1 bt317.2.1 bt317.2.2.1 bt317.2.2.2.1 bt317.2.2.2.2.1 bt317.2.2.2.2.2 bt323.1 bt323.2).bind fun bt325 => ((laws_toMarkS.f k l1).bind fun t332 => ((laws_toRules.f a0_0 a0_1 a0_2 a0_3 a0_4).bind fun bt335 => ((laws_toState.f a2_0 a2_1 a2_2 a2_3 a2_4 a2_5).bind fun bt340 => ((laws_toEvent.f a3_0 a3_1).bind fun bt346 => ((impl_Do.f k bt335.1 bt335.2.1 bt335.2.2.1 bt335.2.2.2.1 bt335.2.2.2.2 t332 bt340.1 bt340.2.1 bt340.2.2.1 bt340.2.2.2.1 bt340.2.2.2.2.1 bt340.2.2.2.2.2 bt346.1 bt346.2).bind fun bt348 => ((laws_eqState.f bt348.1 bt348.2.1 bt348.2.2.1 bt348.2.2.2.1 bt348.2.2.2.2.1 bt348.2.2.2.2.2 bt325.1 bt325.2.1 bt325.2.2.1 bt325.2.2.2.1 bt325.2.2.2.2.1 bt325.2.2.2.2.2).bind fun t355 => (if t355 = true then ((laws_toMarkS.f k l1).bind fun t356 => ((laws_eqMarkS.f k t332 t356).bind fun t359 => (if t359 = true then (some true) else (some false)))) else (some false))))))))))))))
theorem laws_FnExactDo.mono : ∀ a0 a1 a2 a3 a4 a5 a6 a7 a8 a9 a10 a11 a12 a13 k, LeO (laws_FnExactDo.f k a0 a1 a2 a3 a4 a5 a6 a7 a8 a9 a10 a11 a12 a13) (laws_FnExactDo.f (k + 1) a0 a1 a2 a3 a4 a5 a6 a7 a8 a9 a10 a11 a12 a13) := by
 intro a0 a1 a2 a3 a4 a5 a6 a7 a8 a9 a10 a11 a12 a13 k
 unfold laws_FnExactDo.f
 repeat' first
   | (with_reducible exact impl_Do.mono _ _ _ _ _ _ _ _ _ _ _ _ _ _ _)
   | (with_reducible exact laws_eqMarkS.mono _ _ _)
   | (with_reducible exact laws_toMarkS.mono _ _)
   | (with_reducible exact spec_Do.mono _ _ _ _ _ _ _ _ _ _ _ _ _ _ _)
   | (with_reducible exact LeO.refl _)
   | (with_reducible exact LeO.none _)
   | (with_reducible refine LeO.ite ?_ ?_)
   | (with_reducible refine LeO.bind ?_ (fun _ => ?_))
   | exact impl_Do.mono _ _ _ _ _ _ _ _ _ _ _ _ _ _ _
   | exact laws_eqMarkS.mono _ _ _
   | exact laws_toMarkS.mono _ _
   | exact spec_Do.mono _ _ _ _ _ _ _ _ _ _ _ _ _ _ _
   | exact LeO.none _
   | refine LeO.ite ?_ ?_
   | refine LeO.bind ?_ (fun _ => ?_)
def laws_FnExactDo.T5 : Bool × List (List Nat × List Nat) := (true, [([], []), ([0], [0]), ([], []), ([2, 1], [2]), ([], []), ([4, 3], [4]), ([], []), ([6, 5], [6]), ([1, 3, 5, 7, 7], [1, 3, 5, 7]), ([], []), ([9, 8, 8, 0, 1, 2, 3, 4, 5, 6, 7, 8, 9], [8, 9])])
def laws_FnExactDo.B5 : List Nat := [0, 1, 0, 7, 0, 31, 0, 127, 255, 0, 1023]
theorem laws_FnExactDo.tab5 : rtab .any (opsOf Try.f4 5) = laws_FnExactDo.T5 := by kernel_rfl
theorem laws_FnExactDo.bits5 : waitsOk laws_FnExactDo.T5.2 laws_FnExactDo.B5 = true := by kernel_rfl
def laws_FnExactDo.T7 : Bool × List (List Nat × List Nat) := (true, [([], []), ([0], [0]), ([], []), ([], []), ([3, 1], [3]), ([], []), ([5, 4], [5]), ([1, 2, 4, 6, 6], [1, 2, 4, 6]), ([], []), ([8, 7, 7, 0, 1, 2, 3, 4, 5, 6, 7, 8], [7, 8])])
def laws_FnExactDo.B7 : List Nat := [0, 1, 0, 0, 11, 0, 59, 127, 0, 511]
theorem laws_FnExactDo.tab7 : rtab .any (opsOf Try.f4 7) = laws_FnExactDo.T7 := by kernel_rfl
theorem laws_FnExactDo.bits7 : waitsOk laws_FnExactDo.T7.2 laws_FnExactDo.B7 = true := by kernel_rfl
set_option maxHeartbeats 8000000 in
set_option maxRecDepth 100000 in
theorem laws_FnExactDo.calls (k : Nat) (a0_0 : Int) (a0_1 : Int) (a0_2 : Int) (a0_3 : Int) (a0_4 : Int) (A1 : Option Addr) (c1 : Nat) (l1 : List (S106)) (a2_0 : Bool) (a2_1 : Int) (a2_2 : Int) (a2_3 : Int) (a2_4 : Int) (a2_5 : Int) (a3_0 : Int) (a3_1 : Int) (r : Bool) (w : World) (hr1 : Kd.C k106 w A1 l1.length l1) (hc1 : l1.length ≤ c1) (h : laws_FnExactDo.f k a0_0 a0_1 a0_2 a0_3 a0_4 l1 a2_0 a2_1 a2_2 a2_3 a2_4 a2_5 a3_0 a3_1 = some r) (HT : Aside0 (r = true)) :
  Calls Try.prog 4 #[.agg #[.int .i64 a0_0, .int .i64 a0_1, .int .i64 a0_2, .int .i64 a0_3, .int .i64 a0_4], .slice A1 l1.length c1, .agg #[.bool a2_0, .int .i64 a2_1, .int .i64 a2_2, .int .i64 a2_3, .int .i64 a2_4, .int .i64 a2_5], .agg #[.int .i64 a3_0, .int .i64 a3_1]] w fun e w' => e = .returned (.bool r) ∧ Below w.heap.size w w' := by
 have hu39 := Try.underlying39
 have hu43 := Try.underlying43
 have hu44 := Try.underlying44
 have hu29 := Try.underlying29
 have HR1 := Aside0.mk hr1
 have HC1 := Aside0.mk hc1
 clear hr1 hc1
 have HB := Aside0.mk (Below.refl w.heap.size w)
 have H : ((laws_szMarkS.f l1 1048576).bind fun t308 => (if t308 < 0 then (some true) else ((laws_toRules.f a0_0 a0_1 a0_2 a0_3 a0_4).bind fun bt309 => ((laws_toMarkS.f k l1).bind fun t314 => ((laws_toState.f a2_0 a2_1 a2_2 a2_3 a2_4 a2_5).bind fun bt317 => ((laws_toEvent.f a3_0 a3_1).bind fun bt323 => ((spec_Do.f k bt309.1 bt309.2.1 bt309.2.2.1 bt309.2.2.2.1 bt309.2.2.2.2 t314 bt317.1 bt317.2.1 bt317.2.2.1 bt317.2.2.2.1 bt317.2.2.2.2.1 bt317.2.2.2.2.2 bt323.1 bt323.2).bind fun bt325 => ((laws_toMarkS.f k l1).bind fun t332 => ((laws_toRules.f a0_0 a0_1 a0_2 a0_3 a0_4).bind fun bt335 => ((laws_toState.f a2_0 a2_1 a2_2 a2_3 a2_4 a2_5).bind fun bt340 => ((laws_toEvent.f a3_0 a3_1).bind fun bt346 => ((impl_Do.f k bt335.1 bt335.2.1 bt335.2.2.1 bt335.2.2.2.1 bt335.2.2.2.2 t332 bt340.1 bt340.2.1 bt340.2.2.1 bt340.2.2.2.1 bt340.2.2.2.2.1 bt340.2.2.2.2.2 bt346.1 bt346.2).bind fun bt348 => ((laws_eqState.f bt348.1 bt348.2.1 bt348.2.2.1 bt348.2.2.2.1 bt348.2.2.2.2.1 bt348.2.2.2.2.2 bt325.1 bt325.2.1 bt325.2.2.1 bt325.2.2.2.1 bt325.2.2.2.2.1 bt325.2.2.2.2.2).bind fun t355 => (if t355 = true then ((laws_toMarkS.f k l1).bind fun t356 => ((laws_eqMarkS.f k t332 t356).bind fun t359 => (if t359 = true then (some true) else (some false)))) else (some false))))))))))))))) = some r := h
 clear h
 replace H := Option.bind_eq_some_iff.mp H
 obtain ⟨t308, A50, H⟩ := H
 replace H : (if t308 < 0 then (some true) else ((laws_toRules.f a0_0 a0_1 a0_2 a0_3 a0_4).bind fun bt309 => ((laws_toMarkS.f k l1).bind fun t314 => ((laws_toState.f a2_0 a2_1 a2_2 a2_3 a2_4 a2_5).bind fun bt317 => ((laws_toEvent.f a3_0 a3_1).bind fun bt323 => ((spec_Do.f k bt309.1 bt309.2.1 bt309.2.2.1 bt309.2.2.2.1 bt309.2.2.2.2 t314 bt317.1 bt317.2.1 bt317.2.2.1 bt317.2.2.2.1 bt317.2.2.2.2.1 bt317.2.2.2.2.2 bt323.1 bt323.2).bind fun bt325 => ((laws_toMarkS.f k l1).bind fun t332 => ((laws_toRules.f a0_0 a0_1 a0_2 a0_3 a0_4).bind fun bt335 => ((laws_toState.f a2_0 a2_1 a2_2 a2_3 a2_4 a2_5).bind fun bt340 => ((laws_toEvent.f a3_0 a3_1).bind fun bt346 => ((impl_Do.f k bt335.1 bt335.2.1 bt335.2.2.1 bt335.2.2.2.1 bt335.2.2.2.2 t332 bt340.1 bt340.2.1 bt340.2.2.1 bt340.2.2.2.1 bt340.2.2.2.2.1 bt340.2.2.2.2.2 bt346.1 bt346.2).bind fun bt348 => ((laws_eqState.f bt348.1 bt348.2.1 bt348.2.2.1 bt348.2.2.2.1 bt348.2.2.2.2.1 bt348.2.2.2.2.2 bt325.1 bt325.2.1 bt325.2.2.1 bt325.2.2.2.1 bt325.2.2.2.2.1 bt325.2.2.2.2.2).bind fun t355 => (if t355 = true then ((laws_toMarkS.f k l1).bind fun t356 => ((laws_eqMarkS.f k t332 t356).bind fun t359 => (if t359 = true then (some true) else (some false)))) else (some false)))))))))))))) = some r := H
 have A5 := Aside0.mk A50
 clear A50
 by_cases c6 : t308 < 0
 ·rw [if_pos c6] at H
  have c6b0 : decide (t308 < 0) = true := decide_eq_true c6
  clear c6
  obtain rfl := Option.some.inj H
  go_enter Try.func4, Try.ntmps4
  go_wp2_with (first | ((with_reducible refine gate_dst (N := 4) rfl ?_); refine zx 4 #[.int .i64 a0_0, .int .i64 a0_1, .int .i64 a0_2, .int .i64 a0_3, .int .i64 a0_4] 39 ?_; intro gb305 hg w7 hbox hb; have BK305 := Aside0.mk (hbox); have GW305 := zge HB hg; have GE305 := GW305; replace HB := zB HB hb; clear hb hbox hg) | ((with_reducible refine gate_dst (N := 6) rfl ?_); refine zx 6 #[.bool a2_0, .int .i64 a2_1, .int .i64 a2_2, .int .i64 a2_3, .int .i64 a2_4, .int .i64 a2_5] 43 ?_; intro gb306 hg w8 hbox hb; have BK306 := Aside0.mk (hbox); have GW306 := zge HB hg; have GE306 := GW306; have NB305_306 := zl BK305 hg; have NB306_305 := zg BK305 hg; replace BK305 := zb BK305 hb; replace HB := zB HB hb; clear hb hbox hg) | ((with_reducible refine gate_dst (N := 7) rfl ?_); refine zx 7 #[.int .i64 a3_0, .int .i64 a3_1] 44 ?_; intro gb307 hg w9 hbox hb; have BK307 := Aside0.mk (hbox); have GW307 := zge HB hg; have GE307 := GW307; have NB305_307 := zl BK305 hg; have NB307_305 := zg BK305 hg; have NB306_307 := zl BK306 hg; have NB307_306 := zg BK306 hg; replace BK305 := zb BK305 hb; replace BK306 := zb BK306 hb; replace HB := zB HB hb; clear hb hbox hg) | ((with_reducible refine gate_callee (f := 18) rfl ?_); refine zL (some 15) Try.func18 #[.slice A1 l1.length c1, .int .i64 1048576] ?_; (with_reducible refine (laws_szMarkS.calls _ _ l1 1048576 t308 _ ?side1 ?side2 A5.out).mono ?_); (case side1 => repeat (first | exact (Kd.C_below HR1.out HB.out) | (with_reducible refine Kd.C_alloc ?_ _) | (with_reducible refine Kd.C_drewN ?_ _) | (with_reducible refine Kd.C_drew ?_))); (case side2 => exact HC1.out); rintro e w' ⟨rfl, ⟨nd, rfl⟩⟩; refine ⟨_, rfl, ?_⟩))
  go_ret
  exact ⟨by first | rfl | (simp [errW_none, errW_some] <;> rfl) | (simp [*, errW_none, errW_some] <;> rfl), by repeat (first | (with_reducible first | exact HB.out | apply below_alloc | apply pw_below_drewN | apply below_drew1 | refine below_set ?_ GE305.out | refine below_set ?_ GE306.out | refine below_set ?_ GE307.out) | exact HB.out)⟩
 ·rw [if_neg c6] at H
  have c6b0 : decide (t308 < 0) = false := decide_eq_false c6
  clear c6
  replace H := Option.bind_eq_some_iff.mp H
  obtain ⟨⟨t309, t310, t311, t312, t313⟩, A100, H⟩ := H
  replace H : ((laws_toMarkS.f k l1).bind fun t314 => ((laws_toState.f a2_0 a2_1 a2_2 a2_3 a2_4 a2_5).bind fun bt317 => ((laws_toEvent.f a3_0 a3_1).bind fun bt323 => ((spec_Do.f k t309 t310 t311 t312 t313 t314 bt317.1 bt317.2.1 bt317.2.2.1 bt317.2.2.2.1 bt317.2.2.2.2.1 bt317.2.2.2.2.2 bt323.1 bt323.2).bind fun bt325 => ((laws_toMarkS.f k l1).bind fun t332 => ((laws_toRules.f a0_0 a0_1 a0_2 a0_3 a0_4).bind fun bt335 => ((laws_toState.f a2_0 a2_1 a2_2 a2_3 a2_4 a2_5).bind fun bt340 => ((laws_toEvent.f a3_0 a3_1).bind fun bt346 => ((impl_Do.f k bt335.1 bt335.2.1 bt335.2.2.1 bt335.2.2.2.1 bt335.2.2.2.2 t332 bt340.1 bt340.2.1 bt340.2.2.1 bt340.2.2.2.1 bt340.2.2.2.2.1 bt340.2.2.2.2.2 bt346.1 bt346.2).bind fun bt348 => ((laws_eqState.f bt348.1 bt348.2.1 bt348.2.2.1 bt348.2.2.2.1 bt348.2.2.2.2.1 bt348.2.2.2.2.2 bt325.1 bt325.2.1 bt325.2.2.1 bt325.2.2.2.1 bt325.2.2.2.2.1 bt325.2.2.2.2.2).bind fun t355 => (if t355 = true then ((laws_toMarkS.f k l1).bind fun t356 => ((laws_eqMarkS.f k t332 t356).bind fun t359 => (if t359 = true then (some true) else (some false)))) else (some false)))))))))))) = some r := H
  have A10 := Aside0.mk A100
  clear A100
  replace H := Option.bind_eq_some_iff.mp H
  obtain ⟨t314, A110, H⟩ := H
  replace H : ((laws_toState.f a2_0 a2_1 a2_2 a2_3 a2_4 a2_5).bind fun bt317 => ((laws_toEvent.f a3_0 a3_1).bind fun bt323 => ((spec_Do.f k t309 t310 t311 t312 t313 t314 bt317.1 bt317.2.1 bt317.2.2.1 bt317.2.2.2.1 bt317.2.2.2.2.1 bt317.2.2.2.2.2 bt323.1 bt323.2).bind fun bt325 => ((laws_toMarkS.f k l1).bind fun t332 => ((laws_toRules.f a0_0 a0_1 a0_2 a0_3 a0_4).bind fun bt335 => ((laws_toState.f a2_0 a2_1 a2_2 a2_3 a2_4 a2_5).bind fun bt340 => ((laws_toEvent.f a3_0 a3_1).bind fun bt346 => ((impl_Do.f k bt335.1 bt335.2.1 bt335.2.2.1 bt335.2.2.2.1 bt335.2.2.2.2 t332 bt340.1 bt340.2.1 bt340.2.2.1 bt340.2.2.2.1 bt340.2.2.2.2.1 bt340.2.2.2.2.2 bt346.1 bt346.2).bind fun bt348 => ((laws_eqState.f bt348.1 bt348.2.1 bt348.2.2.1 bt348.2.2.2.1 bt348.2.2.2.2.1 bt348.2.2.2.2.2 bt325.1 bt325.2.1 bt325.2.2.1 bt325.2.2.2.1 bt325.2.2.2.2.1 bt325.2.2.2.2.2).bind fun t355 => (if t355 = true then ((laws_toMarkS.f k l1).bind fun t356 => ((laws_eqMarkS.f k t332 t356).bind fun t359 => (if t359 = true then (some true) else (some false)))) else (some false))))))))))) = some r := H
  have A11 := Aside0.mk A110
  clear A110
  replace H := Option.bind_eq_some_iff.mp H
  obtain ⟨⟨t317, t318, t319, t320, t321, t322⟩, A120, H⟩ := H
  replace H : ((laws_toEvent.f a3_0 a3_1).bind fun bt323 => ((spec_Do.f k t309 t310 t311 t312 t313 t314 t317 t318 t319 t320 t321 t322 bt323.1 bt323.2).bind fun bt325 => ((laws_toMarkS.f k l1).bind fun t332 => ((laws_toRules.f a0_0 a0_1 a0_2 a0_3 a0_4).bind fun bt335 => ((laws_toState.f a2_0 a2_1 a2_2 a2_3 a2_4 a2_5).bind fun bt340 => ((laws_toEvent.f a3_0 a3_1).bind fun bt346 => ((impl_Do.f k bt335.1 bt335.2.1 bt335.2.2.1 bt335.2.2.2.1 bt335.2.2.2.2 t332 bt340.1 bt340.2.1 bt340.2.2.1 bt340.2.2.2.1 bt340.2.2.2.2.1 bt340.2.2.2.2.2 bt346.1 bt346.2).bind fun bt348 => ((laws_eqState.f bt348.1 bt348.2.1 bt348.2.2.1 bt348.2.2.2.1 bt348.2.2.2.2.1 bt348.2.2.2.2.2 bt325.1 bt325.2.1 bt325.2.2.1 bt325.2.2.2.1 bt325.2.2.2.2.1 bt325.2.2.2.2.2).bind fun t355 => (if t355 = true then ((laws_toMarkS.f k l1).bind fun t356 => ((laws_eqMarkS.f k t332 t356).bind fun t359 => (if t359 = true then (some true) else (some false)))) else (some false)))))))))) = some r := H
  have A12 := Aside0.mk A120
  clear A120
  replace H := Option.bind_eq_some_iff.mp H
  obtain ⟨⟨t323, t324⟩, A130, H⟩ := H
  replace H : ((spec_Do.f k t309 t310 t311 t312 t313 t314 t317 t318 t319 t320 t321 t322 t323 t324).bind fun bt325 => ((laws_toMarkS.f k l1).bind fun t332 => ((laws_toRules.f a0_0 a0_1 a0_2 a0_3 a0_4).bind fun bt335 => ((laws_toState.f a2_0 a2_1 a2_2 a2_3 a2_4 a2_5).bind fun bt340 => ((laws_toEvent.f a3_0 a3_1).bind fun bt346 => ((impl_Do.f k bt335.1 bt335.2.1 bt335.2.2.1 bt335.2.2.2.1 bt335.2.2.2.2 t332 bt340.1 bt340.2.1 bt340.2.2.1 bt340.2.2.2.1 bt340.2.2.2.2.1 bt340.2.2.2.2.2 bt346.1 bt346.2).bind fun bt348 => ((laws_eqState.f bt348.1 bt348.2.1 bt348.2.2.1 bt348.2.2.2.1 bt348.2.2.2.2.1 bt348.2.2.2.2.2 bt325.1 bt325.2.1 bt325.2.2.1 bt325.2.2.2.1 bt325.2.2.2.2.1 bt325.2.2.2.2.2).bind fun t355 => (if t355 = true then ((laws_toMarkS.f k l1).bind fun t356 => ((laws_eqMarkS.f k t332 t356).bind fun t359 => (if t359 = true then (some true) else (some false)))) else (some false))))))))) = some r := H
  have A13 := Aside0.mk A130
  clear A130
  replace H := Option.bind_eq_some_iff.mp H
  obtain ⟨⟨t325, t326, t327, t328, t329, t330⟩, A140, H⟩ := H
  replace H : ((laws_toMarkS.f k l1).bind fun t332 => ((laws_toRules.f a0_0 a0_1 a0_2 a0_3 a0_4).bind fun bt335 => ((laws_toState.f a2_0 a2_1 a2_2 a2_3 a2_4 a2_5).bind fun bt340 => ((laws_toEvent.f a3_0 a3_1).bind fun bt346 => ((impl_Do.f k bt335.1 bt335.2.1 bt335.2.2.1 bt335.2.2.2.1 bt335.2.2.2.2 t332 bt340.1 bt340.2.1 bt340.2.2.1 bt340.2.2.2.1 bt340.2.2.2.2.1 bt340.2.2.2.2.2 bt346.1 bt346.2).bind fun bt348 => ((laws_eqState.f bt348.1 bt348.2.1 bt348.2.2.1 bt348.2.2.2.1 bt348.2.2.2.2.1 bt348.2.2.2.2.2 t325 t326 t327 t328 t329 t330).bind fun t355 => (if t355 = true then ((laws_toMarkS.f k l1).bind fun t356 => ((laws_eqMarkS.f k t332 t356).bind fun t359 => (if t359 = true then (some true) else (some false)))) else (some false)))))))) = some r := H
  have A14 := Aside0.mk A140
  clear A140
  replace H := Option.bind_eq_some_iff.mp H
  obtain ⟨t332, A150, H⟩ := H
  replace H : ((laws_toRules.f a0_0 a0_1 a0_2 a0_3 a0_4).bind fun bt335 => ((laws_toState.f a2_0 a2_1 a2_2 a2_3 a2_4 a2_5).bind fun bt340 => ((laws_toEvent.f a3_0 a3_1).bind fun bt346 => ((impl_Do.f k bt335.1 bt335.2.1 bt335.2.2.1 bt335.2.2.2.1 bt335.2.2.2.2 t332 bt340.1 bt340.2.1 bt340.2.2.1 bt340.2.2.2.1 bt340.2.2.2.2.1 bt340.2.2.2.2.2 bt346.1 bt346.2).bind fun bt348 => ((laws_eqState.f bt348.1 bt348.2.1 bt348.2.2.1 bt348.2.2.2.1 bt348.2.2.2.2.1 bt348.2.2.2.2.2 t325 t326 t327 t328 t329 t330).bind fun t355 => (if t355 = true then ((laws_toMarkS.f k l1).bind fun t356 => ((laws_eqMarkS.f k t332 t356).bind fun t359 => (if t359 = true then (some true) else (some false)))) else (some false))))))) = some r := H
  have A15 := Aside0.mk A150
  clear A150
  replace H := Option.bind_eq_some_iff.mp H
  obtain ⟨⟨t335, t336, t337, t338, t339⟩, A160, H⟩ := H
  replace H : ((laws_toState.f a2_0 a2_1 a2_2 a2_3 a2_4 a2_5).bind fun bt340 => ((laws_toEvent.f a3_0 a3_1).bind fun bt346 => ((impl_Do.f k t335 t336 t337 t338 t339 t332 bt340.1 bt340.2.1 bt340.2.2.1 bt340.2.2.2.1 bt340.2.2.2.2.1 bt340.2.2.2.2.2 bt346.1 bt346.2).bind fun bt348 => ((laws_eqState.f bt348.1 bt348.2.1 bt348.2.2.1 bt348.2.2.2.1 bt348.2.2.2.2.1 bt348.2.2.2.2.2 t325 t326 t327 t328 t329 t330).bind fun t355 => (if t355 = true then ((laws_toMarkS.f k l1).bind fun t356 => ((laws_eqMarkS.f k t332 t356).bind fun t359 => (if t359 = true then (some true) else (some false)))) else (some false)))))) = some r := H
  have A16 := Aside0.mk A160
  clear A160
  replace H := Option.bind_eq_some_iff.mp H
  obtain ⟨⟨t340, t341, t342, t343, t344, t345⟩, A170, H⟩ := H
  replace H : ((laws_toEvent.f a3_0 a3_1).bind fun bt346 => ((impl_Do.f k t335 t336 t337 t338 t339 t332 t340 t341 t342 t343 t344 t345 bt346.1 bt346.2).bind fun bt348 => ((laws_eqState.f bt348.1 bt348.2.1 bt348.2.2.1 bt348.2.2.2.1 bt348.2.2.2.2.1 bt348.2.2.2.2.2 t325 t326 t327 t328 t329 t330).bind fun t355 => (if t355 = true then ((laws_toMarkS.f k l1).bind fun t356 => ((laws_eqMarkS.f k t332 t356).bind fun t359 => (if t359 = true then (some true) else (some false)))) else (some false))))) = some r := H
  have A17 := Aside0.mk A170
  clear A170
  replace H := Option.bind_eq_some_iff.mp H
  obtain ⟨⟨t346, t347⟩, A180, H⟩ := H
  replace H : ((impl_Do.f k t335 t336 t337 t338 t339 t332 t340 t341 t342 t343 t344 t345 t346 t347).bind fun bt348 => ((laws_eqState.f bt348.1 bt348.2.1 bt348.2.2.1 bt348.2.2.2.1 bt348.2.2.2.2.1 bt348.2.2.2.2.2 t325 t326 t327 t328 t329 t330).bind fun t355 => (if t355 = true then ((laws_toMarkS.f k l1).bind fun t356 => ((laws_eqMarkS.f k t332 t356).bind fun t359 => (if t359 = true then (some true) else (some false)))) else (some false)))) = some r := H
  have A18 := Aside0.mk A180
  clear A180
  replace H := Option.bind_eq_some_iff.mp H
  obtain ⟨⟨t348, t349, t350, t351, t352, t353⟩, A190, H⟩ := H
  replace H : ((laws_eqState.f t348 t349 t350 t351 t352 t353 t325 t326 t327 t328 t329 t330).bind fun t355 => (if t355 = true then ((laws_toMarkS.f k l1).bind fun t356 => ((laws_eqMarkS.f k t332 t356).bind fun t359 => (if t359 = true then (some true) else (some false)))) else (some false))) = some r := H
  have A19 := Aside0.mk A190
  clear A190
  replace H := Option.bind_eq_some_iff.mp H
  obtain ⟨t355, A200, H⟩ := H
  replace H : (if t355 = true then ((laws_toMarkS.f k l1).bind fun t356 => ((laws_eqMarkS.f k t332 t356).bind fun t359 => (if t359 = true then (some true) else (some false)))) else (some false)) = some r := H
  have A20 := Aside0.mk A200
  clear A200
  by_cases c21 : t355 = true
  ·subst c21
   have H1 : ((laws_toMarkS.f k l1).bind fun t356 => ((laws_eqMarkS.f k t332 t356).bind fun t359 => (if t359 = true then (some true) else (some false)))) = some r := by rw [if_pos rfl] at H; exact H
   clear H
   have H := H1
   clear H1
   replace H := Option.bind_eq_some_iff.mp H
   obtain ⟨t356, A220, H⟩ := H
   replace H : ((laws_eqMarkS.f k t332 t356).bind fun t359 => (if t359 = true then (some true) else (some false))) = some r := H
   have A22 := Aside0.mk A220
   clear A220
   replace H := Option.bind_eq_some_iff.mp H
   obtain ⟨t359, A230, H⟩ := H
   replace H : (if t359 = true then (some true) else (some false)) = some r := H
   have A23 := Aside0.mk A230
   clear A230
   by_cases c24 : t359 = true
   ·subst c24
    have H1 : (some true) = some r := by rw [if_pos rfl] at H; exact H
    clear H
    have H := H1
    clear H1
    obtain rfl := Option.some.inj H
    go_enter Try.func4, Try.ntmps4
    try go_wp2_with (first | ((with_reducible refine gate_dst (N := 4) rfl ?_); refine zx 4 #[.int .i64 a0_0, .int .i64 a0_1, .int .i64 a0_2, .int .i64 a0_3, .int .i64 a0_4] 39 ?_; intro gb305 hg w25 hbox hb; have BK305 := Aside0.mk (hbox); have GW305 := zge HB hg; have GE305 := GW305; replace HB := zB HB hb; clear hb hbox hg) | ((with_reducible refine gate_dst (N := 6) rfl ?_); refine zx 6 #[.bool a2_0, .int .i64 a2_1, .int .i64 a2_2, .int .i64 a2_3, .int .i64 a2_4, .int .i64 a2_5] 43 ?_; intro gb306 hg w26 hbox hb; have BK306 := Aside0.mk (hbox); have GW306 := zge HB hg; have GE306 := GW306; have NB305_306 := zl BK305 hg; have NB306_305 := zg BK305 hg; replace BK305 := zb BK305 hb; replace HB := zB HB hb; clear hb hbox hg) | ((with_reducible refine gate_dst (N := 7) rfl ?_); refine zx 7 #[.int .i64 a3_0, .int .i64 a3_1] 44 ?_; intro gb307 hg w27 hbox hb; have BK307 := Aside0.mk (hbox); have GW307 := zge HB hg; have GE307 := GW307; have NB305_307 := zl BK305 hg; have NB307_305 := zg BK305 hg; have NB306_307 := zl BK306 hg; have NB307_306 := zg BK306 hg; replace BK305 := zb BK305 hb; replace BK306 := zb BK306 hb; replace HB := zB HB hb; clear hb hbox hg) | ((with_reducible refine gate_callee (f := 18) rfl ?_); refine zL (some 15) Try.func18 #[.slice A1 l1.length c1, .int .i64 1048576] ?_; (with_reducible refine (laws_szMarkS.calls _ _ l1 1048576 t308 _ ?side1 ?side2 A5.out).mono ?_); (case side1 => repeat (first | exact (Kd.C_below HR1.out HB.out) | (with_reducible refine Kd.C_alloc ?_ _) | (with_reducible refine Kd.C_drewN ?_ _) | (with_reducible refine Kd.C_drew ?_))); (case side2 => exact HC1.out); rintro e w' ⟨rfl, ⟨nd, rfl⟩⟩; refine ⟨_, rfl, ?_⟩; (try (rw [drewN_self w27]; generalize hq_ : World.drewN w27 _ = w27; have n0_ : Aside0 (w27.heap[gb305]? = some (.cells #[.int .i64 a0_0, .int .i64 a0_1, .int .i64 a0_2, .int .i64 a0_3, .int .i64 a0_4] 39 (0, 0))) := ⟨by rw [← hq_]; exact (zy BK305)⟩; have n1_ : Aside0 (w27.heap[gb306]? = some (.cells #[.bool a2_0, .int .i64 a2_1, .int .i64 a2_2, .int .i64 a2_3, .int .i64 a2_4, .int .i64 a2_5] 43 (0, 0))) := ⟨by rw [← hq_]; exact (zy BK306)⟩; have n2_ : Aside0 (w27.heap[gb307]? = some (.cells #[.int .i64 a3_0, .int .i64 a3_1] 44 (0, 0))) := ⟨by rw [← hq_]; exact (zy BK307)⟩; have n3_ : Aside0 (Below w.heap.size w w27) := ⟨by rw [← hq_]; exact (by repeat (first | (with_reducible first | exact HB.out | apply below_alloc | apply pw_below_drewN | apply below_drew1 | refine below_set ?_ GE305.out | refine below_set ?_ GE306.out | refine below_set ?_ GE307.out) | exact HB.out))⟩; clear BK305 BK306 BK307 HB hq_; have BK305 := n0_; have BK306 := n1_; have BK307 := n2_; have HB := n3_; clear n0_ n1_ n2_ n3_)); obtain ⟨hczm15_0, hczm15_1, hczm15_2, hczm15_3, hczm15_4, hfzm15_0, hfzm15_1, hfzm15_2, hfzm15_3, hfzm15_4⟩ := zs5 BK305; obtain ⟨hczm16_0, hczm16_1, hczm16_2, hczm16_3, hczm16_4, hczm16_5, hfzm16_0, hfzm16_1, hfzm16_2, hfzm16_3, hfzm16_4, hfzm16_5⟩ := zs6 BK306; obtain ⟨hczm17_0, hczm17_1, hfzm17_0, hfzm17_1⟩ := zs2 BK307))
    have n0_ := Aside0.mk (blk_drew BK305.out)
    have n1_ := Aside0.mk (blk_drew BK306.out)
    have n2_ := Aside0.mk (blk_drew BK307.out)
    have n3_ := Aside0.mk (below_drew1 HB.out)
    clear BK305 BK306 BK307 HB
    have BK305 := n0_
    have BK306 := n1_
    have BK307 := n2_
    have HB := n3_
    clear n0_ n1_ n2_ n3_
    refine start_ (n := 11) (S := fun w' => w'.cell? ⟨gb305, 0, none⟩ = some (.int .i64 a0_0) ∧ w'.cell? ⟨gb305, 1, none⟩ = some (.int .i64 a0_1) ∧ w'.cell? ⟨gb305, 2, none⟩ = some (.int .i64 a0_2) ∧ w'.cell? ⟨gb305, 3, none⟩ = some (.int .i64 a0_3) ∧ w'.cell? ⟨gb305, 4, none⟩ = some (.int .i64 a0_4) ∧ w'.cell? ⟨gb306, 0, none⟩ = some (.bool a2_0) ∧ w'.cell? ⟨gb306, 1, none⟩ = some (.int .i64 a2_1) ∧ w'.cell? ⟨gb306, 2, none⟩ = some (.int .i64 a2_2) ∧ w'.cell? ⟨gb306, 3, none⟩ = some (.int .i64 a2_3) ∧ w'.cell? ⟨gb306, 4, none⟩ = some (.int .i64 a2_4) ∧ w'.cell? ⟨gb306, 5, none⟩ = some (.int .i64 a2_5) ∧ w'.cell? ⟨gb307, 0, none⟩ = some (.int .i64 a3_0) ∧ w'.cell? ⟨gb307, 1, none⟩ = some (.int .i64 a3_1)) (ds := []) #[false, false, false, false, false, false, false, false, false, false, false] (by kernel_rfl) rfl rfl ⟨zc BK305 0, zc BK305 1, zc BK305 2, zc BK305 3, zc BK305 4, zc BK306 0, zc BK306 1, zc BK306 2, zc BK306 3, zc BK306 4, zc BK306 5, zc BK307 0, zc BK307 1⟩ (fun hHeld => ?_); refine with_tabW laws_FnExactDo.tab5 laws_FnExactDo.bits5 (fun HT_ HW_ => ?_)
    generalize w27.drew = w28 at BK305 BK306 BK307 HB hHeld ⊢
    refine zp 2 20 (zm 11 4) HT_ ?_
    refine zt 0 18 (zm 11 5) HT_ HW_ hHeld ?_
    refine zt 4 22 (zm 11 21) HT_ HW_ hHeld ?_
    refine zt 6 24 (zm 11 85) HT_ HW_ hHeld ?_
    refine join_ (σ := Value × Nat) 1 #[true, true, true, true, true, true, true, true, true, true, false] (fun s_ => [(19, .agg #[.int .i64 t309, .int .i64 t310, .int .i64 t311, .int .i64 t312, .int .i64 t313]), (21, s_.1), (23, .agg #[.bool t317, .int .i64 t318, .int .i64 t319, .int .i64 t320, .int .i64 t321, .int .i64 t322]), (25, .agg #[.int .i64 t323, .int .i64 t324]), (26, .agg #[.bool t325, .int .i64 t326, .int .i64 t327, .int .i64 t328, .int .i64 t329, .int .i64 t330]), (10, .pointer (some ⟨s_.2, 0, none⟩))]) (fun s_ w' => (w'.cell? ⟨gb305, 0, none⟩ = some (.int .i64 a0_0) ∧ w'.cell? ⟨gb305, 1, none⟩ = some (.int .i64 a0_1) ∧ w'.cell? ⟨gb305, 2, none⟩ = some (.int .i64 a0_2) ∧ w'.cell? ⟨gb305, 3, none⟩ = some (.int .i64 a0_3) ∧ w'.cell? ⟨gb305, 4, none⟩ = some (.int .i64 a0_4) ∧ w'.cell? ⟨gb306, 0, none⟩ = some (.bool a2_0) ∧ w'.cell? ⟨gb306, 1, none⟩ = some (.int .i64 a2_1) ∧ w'.cell? ⟨gb306, 2, none⟩ = some (.int .i64 a2_2) ∧ w'.cell? ⟨gb306, 3, none⟩ = some (.int .i64 a2_3) ∧ w'.cell? ⟨gb306, 4, none⟩ = some (.int .i64 a2_4) ∧ w'.cell? ⟨gb306, 5, none⟩ = some (.int .i64 a2_5) ∧ w'.cell? ⟨gb307, 0, none⟩ = some (.int .i64 a3_0) ∧ w'.cell? ⟨gb307, 1, none⟩ = some (.int .i64 a3_1)) ∧ (Kd.R k37 37 w' w.heap.size (fun _ => True) s_.1 t314) ∧ (w'.heap[gb305]? = some (.cells #[.int .i64 a0_0, .int .i64 a0_1, .int .i64 a0_2, .int .i64 a0_3, .int .i64 a0_4] 39 (0, 0))) ∧ (w'.heap[gb306]? = some (.cells #[.bool a2_0, .int .i64 a2_1, .int .i64 a2_2, .int .i64 a2_3, .int .i64 a2_4, .int .i64 a2_5] 43 (0, 0))) ∧ (w'.heap[gb307]? = some (.cells #[.int .i64 a3_0, .int .i64 a3_1] 44 (0, 0))) ∧ (w'.heap[s_.2]? = some (.cells #[.bool false, .int .i64 0, .int .i64 0, .int .i64 0, .int .i64 0, .int .i64 0] 29 (0, 0))) ∧ (w.heap.size ≤ s_.2) ∧ (w.heap.size ≤ s_.2) ∧ (gb305 ≠ s_.2) ∧ (s_.2 ≠ gb305) ∧ (gb306 ≠ s_.2) ∧ (s_.2 ≠ gb306) ∧ (gb307 ≠ s_.2) ∧ (s_.2 ≠ gb307) ∧ (Below w.heap.size w w')) ?_ ?_
    rotate_left
    ·intro hJ1_3_5_7_8_9
     refine join_ (σ := Value) 2 #[true, true, true, true, true, true, true, true, true, false, false] (fun s_ => [(19, .agg #[.int .i64 t309, .int .i64 t310, .int .i64 t311, .int .i64 t312, .int .i64 t313]), (21, s_), (23, .agg #[.bool t317, .int .i64 t318, .int .i64 t319, .int .i64 t320, .int .i64 t321, .int .i64 t322]), (25, .agg #[.int .i64 t323, .int .i64 t324]), (26, .agg #[.bool t325, .int .i64 t326, .int .i64 t327, .int .i64 t328, .int .i64 t329, .int .i64 t330])]) (fun s_ w' => (w'.cell? ⟨gb305, 0, none⟩ = some (.int .i64 a0_0) ∧ w'.cell? ⟨gb305, 1, none⟩ = some (.int .i64 a0_1) ∧ w'.cell? ⟨gb305, 2, none⟩ = some (.int .i64 a0_2) ∧ w'.cell? ⟨gb305, 3, none⟩ = some (.int .i64 a0_3) ∧ w'.cell? ⟨gb305, 4, none⟩ = some (.int .i64 a0_4) ∧ w'.cell? ⟨gb306, 0, none⟩ = some (.bool a2_0) ∧ w'.cell? ⟨gb306, 1, none⟩ = some (.int .i64 a2_1) ∧ w'.cell? ⟨gb306, 2, none⟩ = some (.int .i64 a2_2) ∧ w'.cell? ⟨gb306, 3, none⟩ = some (.int .i64 a2_3) ∧ w'.cell? ⟨gb306, 4, none⟩ = some (.int .i64 a2_4) ∧ w'.cell? ⟨gb306, 5, none⟩ = some (.int .i64 a2_5) ∧ w'.cell? ⟨gb307, 0, none⟩ = some (.int .i64 a3_0) ∧ w'.cell? ⟨gb307, 1, none⟩ = some (.int .i64 a3_1)) ∧ (Kd.R k37 37 w' w.heap.size (fun _ => True) s_ t314) ∧ (w'.heap[gb305]? = some (.cells #[.int .i64 a0_0, .int .i64 a0_1, .int .i64 a0_2, .int .i64 a0_3, .int .i64 a0_4] 39 (0, 0))) ∧ (w'.heap[gb306]? = some (.cells #[.bool a2_0, .int .i64 a2_1, .int .i64 a2_2, .int .i64 a2_3, .int .i64 a2_4, .int .i64 a2_5] 43 (0, 0))) ∧ (w'.heap[gb307]? = some (.cells #[.int .i64 a3_0, .int .i64 a3_1] 44 (0, 0))) ∧ (Below w.heap.size w w')) ?_ ?_
     rotate_left
     ·intro hJ1_3_5_7_8
      refine join_ (σ := Value × Nat) 2 #[true, true, true, true, true, true, true, true, false, true, false] (fun s_ => [(19, .agg #[.int .i64 t309, .int .i64 t310, .int .i64 t311, .int .i64 t312, .int .i64 t313]), (21, s_.1), (23, .agg #[.bool t317, .int .i64 t318, .int .i64 t319, .int .i64 t320, .int .i64 t321, .int .i64 t322]), (25, .agg #[.int .i64 t323, .int .i64 t324]), (10, .pointer (some ⟨s_.2, 0, none⟩))]) (fun s_ w' => (w'.cell? ⟨gb305, 0, none⟩ = some (.int .i64 a0_0) ∧ w'.cell? ⟨gb305, 1, none⟩ = some (.int .i64 a0_1) ∧ w'.cell? ⟨gb305, 2, none⟩ = some (.int .i64 a0_2) ∧ w'.cell? ⟨gb305, 3, none⟩ = some (.int .i64 a0_3) ∧ w'.cell? ⟨gb305, 4, none⟩ = some (.int .i64 a0_4) ∧ w'.cell? ⟨gb306, 0, none⟩ = some (.bool a2_0) ∧ w'.cell? ⟨gb306, 1, none⟩ = some (.int .i64 a2_1) ∧ w'.cell? ⟨gb306, 2, none⟩ = some (.int .i64 a2_2) ∧ w'.cell? ⟨gb306, 3, none⟩ = some (.int .i64 a2_3) ∧ w'.cell? ⟨gb306, 4, none⟩ = some (.int .i64 a2_4) ∧ w'.cell? ⟨gb306, 5, none⟩ = some (.int .i64 a2_5) ∧ w'.cell? ⟨gb307, 0, none⟩ = some (.int .i64 a3_0) ∧ w'.cell? ⟨gb307, 1, none⟩ = some (.int .i64 a3_1)) ∧ (Kd.R k37 37 w' w.heap.size (fun _ => True) s_.1 t314) ∧ (w'.heap[gb305]? = some (.cells #[.int .i64 a0_0, .int .i64 a0_1, .int .i64 a0_2, .int .i64 a0_3, .int .i64 a0_4] 39 (0, 0))) ∧ (w'.heap[gb306]? = some (.cells #[.bool a2_0, .int .i64 a2_1, .int .i64 a2_2, .int .i64 a2_3, .int .i64 a2_4, .int .i64 a2_5] 43 (0, 0))) ∧ (w'.heap[gb307]? = some (.cells #[.int .i64 a3_0, .int .i64 a3_1] 44 (0, 0))) ∧ (w'.heap[s_.2]? = some (.cells #[.bool false, .int .i64 0, .int .i64 0, .int .i64 0, .int .i64 0, .int .i64 0] 29 (0, 0))) ∧ (w.heap.size ≤ s_.2) ∧ (w.heap.size ≤ s_.2) ∧ (gb305 ≠ s_.2) ∧ (s_.2 ≠ gb305) ∧ (gb306 ≠ s_.2) ∧ (s_.2 ≠ gb306) ∧ (gb307 ≠ s_.2) ∧ (s_.2 ≠ gb307) ∧ (Below w.heap.size w w')) ?_ ?_
      rotate_left
      ·intro hJ1_3_5_7_9
       refine join_ (σ := Value) 3 #[true, true, true, true, true, true, true, true, false, false, false] (fun s_ => [(19, .agg #[.int .i64 t309, .int .i64 t310, .int .i64 t311, .int .i64 t312, .int .i64 t313]), (21, s_), (23, .agg #[.bool t317, .int .i64 t318, .int .i64 t319, .int .i64 t320, .int .i64 t321, .int .i64 t322]), (25, .agg #[.int .i64 t323, .int .i64 t324])]) (fun s_ w' => (w'.cell? ⟨gb305, 0, none⟩ = some (.int .i64 a0_0) ∧ w'.cell? ⟨gb305, 1, none⟩ = some (.int .i64 a0_1) ∧ w'.cell? ⟨gb305, 2, none⟩ = some (.int .i64 a0_2) ∧ w'.cell? ⟨gb305, 3, none⟩ = some (.int .i64 a0_3) ∧ w'.cell? ⟨gb305, 4, none⟩ = some (.int .i64 a0_4) ∧ w'.cell? ⟨gb306, 0, none⟩ = some (.bool a2_0) ∧ w'.cell? ⟨gb306, 1, none⟩ = some (.int .i64 a2_1) ∧ w'.cell? ⟨gb306, 2, none⟩ = some (.int .i64 a2_2) ∧ w'.cell? ⟨gb306, 3, none⟩ = some (.int .i64 a2_3) ∧ w'.cell? ⟨gb306, 4, none⟩ = some (.int .i64 a2_4) ∧ w'.cell? ⟨gb306, 5, none⟩ = some (.int .i64 a2_5) ∧ w'.cell? ⟨gb307, 0, none⟩ = some (.int .i64 a3_0) ∧ w'.cell? ⟨gb307, 1, none⟩ = some (.int .i64 a3_1)) ∧ (Kd.R k37 37 w' w.heap.size (fun _ => True) s_ t314) ∧ (w'.heap[gb305]? = some (.cells #[.int .i64 a0_0, .int .i64 a0_1, .int .i64 a0_2, .int .i64 a0_3, .int .i64 a0_4] 39 (0, 0))) ∧ (w'.heap[gb306]? = some (.cells #[.bool a2_0, .int .i64 a2_1, .int .i64 a2_2, .int .i64 a2_3, .int .i64 a2_4, .int .i64 a2_5] 43 (0, 0))) ∧ (w'.heap[gb307]? = some (.cells #[.int .i64 a3_0, .int .i64 a3_1] 44 (0, 0))) ∧ (Below w.heap.size w w')) ?_ ?_
       rotate_left
       ·intro hJ1_3_5_7
        refine join_ (σ := Value × Nat) 3 #[true, true, true, true, true, true, true, false, false, true, false] (fun s_ => [(19, .agg #[.int .i64 t309, .int .i64 t310, .int .i64 t311, .int .i64 t312, .int .i64 t313]), (21, s_.1), (23, .agg #[.bool t317, .int .i64 t318, .int .i64 t319, .int .i64 t320, .int .i64 t321, .int .i64 t322]), (10, .pointer (some ⟨s_.2, 0, none⟩))]) (fun s_ w' => (w'.cell? ⟨gb305, 0, none⟩ = some (.int .i64 a0_0) ∧ w'.cell? ⟨gb305, 1, none⟩ = some (.int .i64 a0_1) ∧ w'.cell? ⟨gb305, 2, none⟩ = some (.int .i64 a0_2) ∧ w'.cell? ⟨gb305, 3, none⟩ = some (.int .i64 a0_3) ∧ w'.cell? ⟨gb305, 4, none⟩ = some (.int .i64 a0_4) ∧ w'.cell? ⟨gb306, 0, none⟩ = some (.bool a2_0) ∧ w'.cell? ⟨gb306, 1, none⟩ = some (.int .i64 a2_1) ∧ w'.cell? ⟨gb306, 2, none⟩ = some (.int .i64 a2_2) ∧ w'.cell? ⟨gb306, 3, none⟩ = some (.int .i64 a2_3) ∧ w'.cell? ⟨gb306, 4, none⟩ = some (.int .i64 a2_4) ∧ w'.cell? ⟨gb306, 5, none⟩ = some (.int .i64 a2_5) ∧ w'.cell? ⟨gb307, 0, none⟩ = some (.int .i64 a3_0) ∧ w'.cell? ⟨gb307, 1, none⟩ = some (.int .i64 a3_1)) ∧ (Kd.R k37 37 w' w.heap.size (fun _ => True) s_.1 t314) ∧ (w'.heap[gb305]? = some (.cells #[.int .i64 a0_0, .int .i64 a0_1, .int .i64 a0_2, .int .i64 a0_3, .int .i64 a0_4] 39 (0, 0))) ∧ (w'.heap[gb306]? = some (.cells #[.bool a2_0, .int .i64 a2_1, .int .i64 a2_2, .int .i64 a2_3, .int .i64 a2_4, .int .i64 a2_5] 43 (0, 0))) ∧ (w'.heap[gb307]? = some (.cells #[.int .i64 a3_0, .int .i64 a3_1] 44 (0, 0))) ∧ (w'.heap[s_.2]? = some (.cells #[.bool false, .int .i64 0, .int .i64 0, .int .i64 0, .int .i64 0, .int .i64 0] 29 (0, 0))) ∧ (w.heap.size ≤ s_.2) ∧ (w.heap.size ≤ s_.2) ∧ (gb305 ≠ s_.2) ∧ (s_.2 ≠ gb305) ∧ (gb306 ≠ s_.2) ∧ (s_.2 ≠ gb306) ∧ (gb307 ≠ s_.2) ∧ (s_.2 ≠ gb307) ∧ (Below w.heap.size w w')) ?_ ?_
        rotate_left
        ·intro hJ1_3_5_9
         refine join_ (σ := Value) 4 #[true, true, true, true, true, true, true, false, false, false, false] (fun s_ => [(19, .agg #[.int .i64 t309, .int .i64 t310, .int .i64 t311, .int .i64 t312, .int .i64 t313]), (21, s_), (23, .agg #[.bool t317, .int .i64 t318, .int .i64 t319, .int .i64 t320, .int .i64 t321, .int .i64 t322])]) (fun s_ w' => (w'.cell? ⟨gb305, 0, none⟩ = some (.int .i64 a0_0) ∧ w'.cell? ⟨gb305, 1, none⟩ = some (.int .i64 a0_1) ∧ w'.cell? ⟨gb305, 2, none⟩ = some (.int .i64 a0_2) ∧ w'.cell? ⟨gb305, 3, none⟩ = some (.int .i64 a0_3) ∧ w'.cell? ⟨gb305, 4, none⟩ = some (.int .i64 a0_4) ∧ w'.cell? ⟨gb306, 0, none⟩ = some (.bool a2_0) ∧ w'.cell? ⟨gb306, 1, none⟩ = some (.int .i64 a2_1) ∧ w'.cell? ⟨gb306, 2, none⟩ = some (.int .i64 a2_2) ∧ w'.cell? ⟨gb306, 3, none⟩ = some (.int .i64 a2_3) ∧ w'.cell? ⟨gb306, 4, none⟩ = some (.int .i64 a2_4) ∧ w'.cell? ⟨gb306, 5, none⟩ = some (.int .i64 a2_5) ∧ w'.cell? ⟨gb307, 0, none⟩ = some (.int .i64 a3_0) ∧ w'.cell? ⟨gb307, 1, none⟩ = some (.int .i64 a3_1)) ∧ (Kd.R k37 37 w' w.heap.size (fun _ => True) s_ t314) ∧ (w'.heap[gb305]? = some (.cells #[.int .i64 a0_0, .int .i64 a0_1, .int .i64 a0_2, .int .i64 a0_3, .int .i64 a0_4] 39 (0, 0))) ∧ (w'.heap[gb306]? = some (.cells #[.bool a2_0, .int .i64 a2_1, .int .i64 a2_2, .int .i64 a2_3, .int .i64 a2_4, .int .i64 a2_5] 43 (0, 0))) ∧ (w'.heap[gb307]? = some (.cells #[.int .i64 a3_0, .int .i64 a3_1] 44 (0, 0))) ∧ (Below w.heap.size w w')) ?_ ?_
         rotate_left
         ·intro hJ1_3_5
          refine join_ (σ := Value × Nat) 4 #[true, true, true, true, true, false, true, false, false, true, false] (fun s_ => [(19, .agg #[.int .i64 t309, .int .i64 t310, .int .i64 t311, .int .i64 t312, .int .i64 t313]), (21, s_.1), (10, .pointer (some ⟨s_.2, 0, none⟩))]) (fun s_ w' => (w'.cell? ⟨gb305, 0, none⟩ = some (.int .i64 a0_0) ∧ w'.cell? ⟨gb305, 1, none⟩ = some (.int .i64 a0_1) ∧ w'.cell? ⟨gb305, 2, none⟩ = some (.int .i64 a0_2) ∧ w'.cell? ⟨gb305, 3, none⟩ = some (.int .i64 a0_3) ∧ w'.cell? ⟨gb305, 4, none⟩ = some (.int .i64 a0_4) ∧ w'.cell? ⟨gb306, 0, none⟩ = some (.bool a2_0) ∧ w'.cell? ⟨gb306, 1, none⟩ = some (.int .i64 a2_1) ∧ w'.cell? ⟨gb306, 2, none⟩ = some (.int .i64 a2_2) ∧ w'.cell? ⟨gb306, 3, none⟩ = some (.int .i64 a2_3) ∧ w'.cell? ⟨gb306, 4, none⟩ = some (.int .i64 a2_4) ∧ w'.cell? ⟨gb306, 5, none⟩ = some (.int .i64 a2_5) ∧ w'.cell? ⟨gb307, 0, none⟩ = some (.int .i64 a3_0) ∧ w'.cell? ⟨gb307, 1, none⟩ = some (.int .i64 a3_1)) ∧ (Kd.R k37 37 w' w.heap.size (fun _ => True) s_.1 t314) ∧ (w'.heap[gb305]? = some (.cells #[.int .i64 a0_0, .int .i64 a0_1, .int .i64 a0_2, .int .i64 a0_3, .int .i64 a0_4] 39 (0, 0))) ∧ (w'.heap[gb306]? = some (.cells #[.bool a2_0, .int .i64 a2_1, .int .i64 a2_2, .int .i64 a2_3, .int .i64 a2_4, .int .i64 a2_5] 43 (0, 0))) ∧ (w'.heap[gb307]? = some (.cells #[.int .i64 a3_0, .int .i64 a3_1] 44 (0, 0))) ∧ (w'.heap[s_.2]? = some (.cells #[.bool false, .int .i64 0, .int .i64 0, .int .i64 0, .int .i64 0, .int .i64 0] 29 (0, 0))) ∧ (w.heap.size ≤ s_.2) ∧ (w.heap.size ≤ s_.2) ∧ (gb305 ≠ s_.2) ∧ (s_.2 ≠ gb305) ∧ (gb306 ≠ s_.2) ∧ (s_.2 ≠ gb306) ∧ (gb307 ≠ s_.2) ∧ (s_.2 ≠ gb307) ∧ (Below w.heap.size w w')) ?_ ?_
          rotate_left
          ·intro hJ1_3_9
           refine join_ (σ := Value) 5 #[true, true, true, true, true, false, true, false, false, false, false] (fun s_ => [(19, .agg #[.int .i64 t309, .int .i64 t310, .int .i64 t311, .int .i64 t312, .int .i64 t313]), (21, s_)]) (fun s_ w' => (w'.cell? ⟨gb305, 0, none⟩ = some (.int .i64 a0_0) ∧ w'.cell? ⟨gb305, 1, none⟩ = some (.int .i64 a0_1) ∧ w'.cell? ⟨gb305, 2, none⟩ = some (.int .i64 a0_2) ∧ w'.cell? ⟨gb305, 3, none⟩ = some (.int .i64 a0_3) ∧ w'.cell? ⟨gb305, 4, none⟩ = some (.int .i64 a0_4) ∧ w'.cell? ⟨gb306, 0, none⟩ = some (.bool a2_0) ∧ w'.cell? ⟨gb306, 1, none⟩ = some (.int .i64 a2_1) ∧ w'.cell? ⟨gb306, 2, none⟩ = some (.int .i64 a2_2) ∧ w'.cell? ⟨gb306, 3, none⟩ = some (.int .i64 a2_3) ∧ w'.cell? ⟨gb306, 4, none⟩ = some (.int .i64 a2_4) ∧ w'.cell? ⟨gb306, 5, none⟩ = some (.int .i64 a2_5) ∧ w'.cell? ⟨gb307, 0, none⟩ = some (.int .i64 a3_0) ∧ w'.cell? ⟨gb307, 1, none⟩ = some (.int .i64 a3_1)) ∧ (Kd.R k37 37 w' w.heap.size (fun _ => True) s_ t314) ∧ (w'.heap[gb305]? = some (.cells #[.int .i64 a0_0, .int .i64 a0_1, .int .i64 a0_2, .int .i64 a0_3, .int .i64 a0_4] 39 (0, 0))) ∧ (w'.heap[gb306]? = some (.cells #[.bool a2_0, .int .i64 a2_1, .int .i64 a2_2, .int .i64 a2_3, .int .i64 a2_4, .int .i64 a2_5] 43 (0, 0))) ∧ (w'.heap[gb307]? = some (.cells #[.int .i64 a3_0, .int .i64 a3_1] 44 (0, 0))) ∧ (Below w.heap.size w w')) ?_ ?_
           rotate_left
           ·intro hJ1_3
            refine join_ (σ := Nat) 5 #[true, true, true, false, true, false, true, false, false, true, false] (fun s_ => [(19, .agg #[.int .i64 t309, .int .i64 t310, .int .i64 t311, .int .i64 t312, .int .i64 t313]), (10, .pointer (some ⟨s_, 0, none⟩))]) (fun s_ w' => (w'.cell? ⟨gb305, 0, none⟩ = some (.int .i64 a0_0) ∧ w'.cell? ⟨gb305, 1, none⟩ = some (.int .i64 a0_1) ∧ w'.cell? ⟨gb305, 2, none⟩ = some (.int .i64 a0_2) ∧ w'.cell? ⟨gb305, 3, none⟩ = some (.int .i64 a0_3) ∧ w'.cell? ⟨gb305, 4, none⟩ = some (.int .i64 a0_4) ∧ w'.cell? ⟨gb306, 0, none⟩ = some (.bool a2_0) ∧ w'.cell? ⟨gb306, 1, none⟩ = some (.int .i64 a2_1) ∧ w'.cell? ⟨gb306, 2, none⟩ = some (.int .i64 a2_2) ∧ w'.cell? ⟨gb306, 3, none⟩ = some (.int .i64 a2_3) ∧ w'.cell? ⟨gb306, 4, none⟩ = some (.int .i64 a2_4) ∧ w'.cell? ⟨gb306, 5, none⟩ = some (.int .i64 a2_5) ∧ w'.cell? ⟨gb307, 0, none⟩ = some (.int .i64 a3_0) ∧ w'.cell? ⟨gb307, 1, none⟩ = some (.int .i64 a3_1)) ∧ (w'.heap[gb305]? = some (.cells #[.int .i64 a0_0, .int .i64 a0_1, .int .i64 a0_2, .int .i64 a0_3, .int .i64 a0_4] 39 (0, 0))) ∧ (w'.heap[gb306]? = some (.cells #[.bool a2_0, .int .i64 a2_1, .int .i64 a2_2, .int .i64 a2_3, .int .i64 a2_4, .int .i64 a2_5] 43 (0, 0))) ∧ (w'.heap[gb307]? = some (.cells #[.int .i64 a3_0, .int .i64 a3_1] 44 (0, 0))) ∧ (w'.heap[s_]? = some (.cells #[.bool false, .int .i64 0, .int .i64 0, .int .i64 0, .int .i64 0, .int .i64 0] 29 (0, 0))) ∧ (w.heap.size ≤ s_) ∧ (w.heap.size ≤ s_) ∧ (gb305 ≠ s_) ∧ (s_ ≠ gb305) ∧ (gb306 ≠ s_) ∧ (s_ ≠ gb306) ∧ (gb307 ≠ s_) ∧ (s_ ≠ gb307) ∧ (Below w.heap.size w w')) ?_ ?_
            rotate_left
            ·intro hJ1_9
             refine join_ (σ := Unit) 6 #[true, true, true, false, true, false, true, false, false, false, false] (fun s_ => [(19, .agg #[.int .i64 t309, .int .i64 t310, .int .i64 t311, .int .i64 t312, .int .i64 t313])]) (fun s_ w' => (w'.cell? ⟨gb305, 0, none⟩ = some (.int .i64 a0_0) ∧ w'.cell? ⟨gb305, 1, none⟩ = some (.int .i64 a0_1) ∧ w'.cell? ⟨gb305, 2, none⟩ = some (.int .i64 a0_2) ∧ w'.cell? ⟨gb305, 3, none⟩ = some (.int .i64 a0_3) ∧ w'.cell? ⟨gb305, 4, none⟩ = some (.int .i64 a0_4) ∧ w'.cell? ⟨gb306, 0, none⟩ = some (.bool a2_0) ∧ w'.cell? ⟨gb306, 1, none⟩ = some (.int .i64 a2_1) ∧ w'.cell? ⟨gb306, 2, none⟩ = some (.int .i64 a2_2) ∧ w'.cell? ⟨gb306, 3, none⟩ = some (.int .i64 a2_3) ∧ w'.cell? ⟨gb306, 4, none⟩ = some (.int .i64 a2_4) ∧ w'.cell? ⟨gb306, 5, none⟩ = some (.int .i64 a2_5) ∧ w'.cell? ⟨gb307, 0, none⟩ = some (.int .i64 a3_0) ∧ w'.cell? ⟨gb307, 1, none⟩ = some (.int .i64 a3_1)) ∧ (w'.heap[gb305]? = some (.cells #[.int .i64 a0_0, .int .i64 a0_1, .int .i64 a0_2, .int .i64 a0_3, .int .i64 a0_4] 39 (0, 0))) ∧ (w'.heap[gb306]? = some (.cells #[.bool a2_0, .int .i64 a2_1, .int .i64 a2_2, .int .i64 a2_3, .int .i64 a2_4, .int .i64 a2_5] 43 (0, 0))) ∧ (w'.heap[gb307]? = some (.cells #[.int .i64 a3_0, .int .i64 a3_1] 44 (0, 0))) ∧ (Below w.heap.size w w')) ?_ ?_
             rotate_left
             ·intro hJ1
              refine join_ (σ := Nat) 6 #[true, false, true, false, true, false, true, false, false, true, false] (fun s_ => [(10, .pointer (some ⟨s_, 0, none⟩))]) (fun s_ w' => (w'.cell? ⟨gb305, 0, none⟩ = some (.int .i64 a0_0) ∧ w'.cell? ⟨gb305, 1, none⟩ = some (.int .i64 a0_1) ∧ w'.cell? ⟨gb305, 2, none⟩ = some (.int .i64 a0_2) ∧ w'.cell? ⟨gb305, 3, none⟩ = some (.int .i64 a0_3) ∧ w'.cell? ⟨gb305, 4, none⟩ = some (.int .i64 a0_4) ∧ w'.cell? ⟨gb306, 0, none⟩ = some (.bool a2_0) ∧ w'.cell? ⟨gb306, 1, none⟩ = some (.int .i64 a2_1) ∧ w'.cell? ⟨gb306, 2, none⟩ = some (.int .i64 a2_2) ∧ w'.cell? ⟨gb306, 3, none⟩ = some (.int .i64 a2_3) ∧ w'.cell? ⟨gb306, 4, none⟩ = some (.int .i64 a2_4) ∧ w'.cell? ⟨gb306, 5, none⟩ = some (.int .i64 a2_5) ∧ w'.cell? ⟨gb307, 0, none⟩ = some (.int .i64 a3_0) ∧ w'.cell? ⟨gb307, 1, none⟩ = some (.int .i64 a3_1)) ∧ (w'.heap[gb305]? = some (.cells #[.int .i64 a0_0, .int .i64 a0_1, .int .i64 a0_2, .int .i64 a0_3, .int .i64 a0_4] 39 (0, 0))) ∧ (w'.heap[gb306]? = some (.cells #[.bool a2_0, .int .i64 a2_1, .int .i64 a2_2, .int .i64 a2_3, .int .i64 a2_4, .int .i64 a2_5] 43 (0, 0))) ∧ (w'.heap[gb307]? = some (.cells #[.int .i64 a3_0, .int .i64 a3_1] 44 (0, 0))) ∧ (w'.heap[s_]? = some (.cells #[.bool false, .int .i64 0, .int .i64 0, .int .i64 0, .int .i64 0, .int .i64 0] 29 (0, 0))) ∧ (w.heap.size ≤ s_) ∧ (w.heap.size ≤ s_) ∧ (gb305 ≠ s_) ∧ (s_ ≠ gb305) ∧ (gb306 ≠ s_) ∧ (s_ ≠ gb306) ∧ (gb307 ≠ s_) ∧ (s_ ≠ gb307) ∧ (Below w.heap.size w w')) ?_ ?_
              rotate_left
              ·intro hJ9
               refine two_ (i := 1) (j := 9) (Ni := some 19) (Nj := some 10) #[true, true, true, false, true, false, true, false, false, false, false] #[true, false, true, false, true, false, true, false, false, true, false] rfl rfl rfl rfl (two_of HT_.out (by kernel_rfl)) (by decide) (by decide) (fun K hK => ?_) (fun K hK => ?_)
               ·skip
                refine zG Try.func19 #[.agg #[.int .i64 a0_0, .int .i64 a0_1, .int .i64 a0_2, .int .i64 a0_3, .int .i64 a0_4]] ?_
                with_reducible refine (laws_toRules.calls a0_0 a0_1 a0_2 a0_3 a0_4 t309 t310 t311 t312 t313 _ A10.out).mono ?_
                rintro e w29 ⟨rfl, hb⟩
                refine ⟨_, rfl, ?_⟩
                replace BK305 := zb BK305 hb
                replace BK306 := zb BK306 hb
                replace BK307 := zb BK307 hb
                replace HB := zB HB hb
                (try clear hb)
                refine hK.out _ _ ⟨zc BK305 0, zc BK305 1, zc BK305 2, zc BK305 3, zc BK305 4, zc BK306 0, zc BK306 1, zc BK306 2, zc BK306 3, zc BK306 4, zc BK306 5, zc BK307 0, zc BK307 1⟩ (fun hHeld => ?_)
                clear hK K
                refine zn 19 ?_
                exact norm_ (by first | (simp only [putAll, Act.put, List.setIfInBounds_toArray, List.set_cons_zero, List.set_cons_succ]; done) | (simp only [putAll, Act.put, List.setIfInBounds_toArray, List.set_cons_zero, List.set_cons_succ]; rfl)) (hJ1 () _ ⟨hHeld, (zy BK305), (zy BK306), (zy BK307), (by repeat (first | (with_reducible first | exact HB.out | apply below_alloc | apply pw_below_drewN | apply below_drew1 | refine below_set ?_ GE305.out | refine below_set ?_ GE306.out | refine below_set ?_ GE307.out) | exact HB.out))⟩)
               ·skip
                refine box_step ?hg (N := 10) ?hd (cs := #[.bool false, .int .i64 0, .int .i64 0, .int .i64 0, .int .i64 0, .int .i64 0]) (t := 29) ?hr ?_; (case hd => rfl); (case hg => rfl); (case hr => first | (go_simp; done) | (go_simp; rfl))
                intro gb331 hg w29 hbox hb
                have BK331 := Aside0.mk (hbox)
                have GW331 := zge HB hg
                have GE331 := GW331
                have NB305_331 := zl BK305 hg
                have NB331_305 := zg BK305 hg
                have NB306_331 := zl BK306 hg
                have NB331_306 := zg BK306 hg
                have NB307_331 := zl BK307 hg
                have NB331_307 := zg BK307 hg
                replace BK305 := zb BK305 hb
                replace BK306 := zb BK306 hb
                replace BK307 := zb BK307 hb
                replace HB := zB HB hb
                clear hb hbox hg
                refine hK.out _ _ ⟨zc BK305 0, zc BK305 1, zc BK305 2, zc BK305 3, zc BK305 4, zc BK306 0, zc BK306 1, zc BK306 2, zc BK306 3, zc BK306 4, zc BK306 5, zc BK307 0, zc BK307 1⟩ (fun hHeld => ?_)
                clear hK K
                refine zn 10 ?_
                exact norm_ (by first | (simp only [putAll, Act.put, List.setIfInBounds_toArray, List.set_cons_zero, List.set_cons_succ]; done) | (simp only [putAll, Act.put, List.setIfInBounds_toArray, List.set_cons_zero, List.set_cons_succ]; rfl)) (hJ9 (gb331) _ ⟨hHeld, (zy BK305), (zy BK306), (zy BK307), (zy BK331), GW331.out, GE331.out, NB305_331.out, NB331_305.out, NB306_331.out, NB331_306.out, NB307_331.out, NB331_307.out, (by repeat (first | (with_reducible first | exact HB.out | apply below_alloc | apply pw_below_drewN | apply below_drew1 | refine below_set ?_ GE305.out | refine below_set ?_ GE306.out | refine below_set ?_ GE307.out | refine below_set ?_ GE331.out) | exact HB.out))⟩)
              ·skip
               rintro gb331 w30 ⟨hS_, h0_, h1_, h2_, h3_, h4_, h5_, h6_, h7_, h8_, h9_, h10_, h11_, h12_⟩
               have n0_ : Aside0 (w30.heap[gb305]? = some (.cells #[.int .i64 a0_0, .int .i64 a0_1, .int .i64 a0_2, .int .i64 a0_3, .int .i64 a0_4] 39 (0, 0))) := ⟨h0_⟩
               have n1_ : Aside0 (w30.heap[gb306]? = some (.cells #[.bool a2_0, .int .i64 a2_1, .int .i64 a2_2, .int .i64 a2_3, .int .i64 a2_4, .int .i64 a2_5] 43 (0, 0))) := ⟨h1_⟩
               have n2_ : Aside0 (w30.heap[gb307]? = some (.cells #[.int .i64 a3_0, .int .i64 a3_1] 44 (0, 0))) := ⟨h2_⟩
               have n3_ : Aside0 (w30.heap[gb331]? = some (.cells #[.bool false, .int .i64 0, .int .i64 0, .int .i64 0, .int .i64 0, .int .i64 0] 29 (0, 0))) := ⟨h3_⟩
               have n4_ : Aside0 (w.heap.size ≤ gb331) := ⟨h4_⟩
               have n5_ : Aside0 (w.heap.size ≤ gb331) := ⟨h5_⟩
               have n6_ : Aside0 (gb305 ≠ gb331) := ⟨h6_⟩
               have n7_ : Aside0 (gb331 ≠ gb305) := ⟨h7_⟩
               have n8_ : Aside0 (gb306 ≠ gb331) := ⟨h8_⟩
               have n9_ : Aside0 (gb331 ≠ gb306) := ⟨h9_⟩
               have n10_ : Aside0 (gb307 ≠ gb331) := ⟨h10_⟩
               have n11_ : Aside0 (gb331 ≠ gb307) := ⟨h11_⟩
               have n12_ : Aside0 (Below w.heap.size w w30) := ⟨h12_⟩
               clear BK305 BK306 BK307 HB h0_ h1_ h2_ h3_ h4_ h5_ h6_ h7_ h8_ h9_ h10_ h11_ h12_
               have BK305 := n0_
               have BK306 := n1_
               have BK307 := n2_
               have BK331 := n3_
               have GW331 := n4_
               have GE331 := n5_
               have NB305_331 := n6_
               have NB331_305 := n7_
               have NB306_331 := n8_
               have NB331_306 := n9_
               have NB307_331 := n10_
               have NB331_307 := n11_
               have HB := n12_
               clear n0_ n1_ n2_ n3_ n4_ n5_ n6_ n7_ n8_ n9_ n10_ n11_ n12_
               have hHeld : w30.cell? ⟨gb305, 0, none⟩ = some (.int .i64 a0_0) ∧ w30.cell? ⟨gb305, 1, none⟩ = some (.int .i64 a0_1) ∧ w30.cell? ⟨gb305, 2, none⟩ = some (.int .i64 a0_2) ∧ w30.cell? ⟨gb305, 3, none⟩ = some (.int .i64 a0_3) ∧ w30.cell? ⟨gb305, 4, none⟩ = some (.int .i64 a0_4) ∧ w30.cell? ⟨gb306, 0, none⟩ = some (.bool a2_0) ∧ w30.cell? ⟨gb306, 1, none⟩ = some (.int .i64 a2_1) ∧ w30.cell? ⟨gb306, 2, none⟩ = some (.int .i64 a2_2) ∧ w30.cell? ⟨gb306, 3, none⟩ = some (.int .i64 a2_3) ∧ w30.cell? ⟨gb306, 4, none⟩ = some (.int .i64 a2_4) ∧ w30.cell? ⟨gb306, 5, none⟩ = some (.int .i64 a2_5) ∧ w30.cell? ⟨gb307, 0, none⟩ = some (.int .i64 a3_0) ∧ w30.cell? ⟨gb307, 1, none⟩ = some (.int .i64 a3_1) := hS_
               refine norm_ (a' := ?_) ?_ ?_
               rotate_left
               ·simp only [putAll, Act.put, List.setIfInBounds_toArray, List.set_cons_zero, List.set_cons_succ]
                rfl
               refine zo 1 (some 19) (zm 11 599) HT_ (fun K hK => ?_)
               refine zG Try.func19 #[.agg #[.int .i64 a0_0, .int .i64 a0_1, .int .i64 a0_2, .int .i64 a0_3, .int .i64 a0_4]] ?_
               with_reducible refine (laws_toRules.calls a0_0 a0_1 a0_2 a0_3 a0_4 t309 t310 t311 t312 t313 _ A10.out).mono ?_
               rintro e w31 ⟨rfl, hb⟩
               refine ⟨_, rfl, ?_⟩
               replace BK305 := zb BK305 hb
               replace BK306 := zb BK306 hb
               replace BK307 := zb BK307 hb
               replace BK331 := zb BK331 hb
               replace HB := zB HB hb
               (try clear hb)
               refine hK.out _ _ ⟨zc BK305 0, zc BK305 1, zc BK305 2, zc BK305 3, zc BK305 4, zc BK306 0, zc BK306 1, zc BK306 2, zc BK306 3, zc BK306 4, zc BK306 5, zc BK307 0, zc BK307 1⟩ (fun hHeld => ?_)
               clear hK K
               refine zn 19 ?_
               exact norm_ (by first | (simp only [putAll, Act.put, List.setIfInBounds_toArray, List.set_cons_zero, List.set_cons_succ]; done) | (simp only [putAll, Act.put, List.setIfInBounds_toArray, List.set_cons_zero, List.set_cons_succ]; rfl)) (hJ1_9 (gb331) _ ⟨hHeld, (zy BK305), (zy BK306), (zy BK307), (zy BK331), GW331.out, GE331.out, NB305_331.out, NB331_305.out, NB306_331.out, NB331_306.out, NB307_331.out, NB331_307.out, (by repeat (first | (with_reducible first | exact HB.out | apply below_alloc | apply pw_below_drewN | apply below_drew1 | refine below_set ?_ GE305.out | refine below_set ?_ GE306.out | refine below_set ?_ GE307.out | refine below_set ?_ GE331.out) | exact HB.out))⟩)
             ·skip
              rintro _ w30 ⟨hS_, h0_, h1_, h2_, h3_⟩
              have n0_ : Aside0 (w30.heap[gb305]? = some (.cells #[.int .i64 a0_0, .int .i64 a0_1, .int .i64 a0_2, .int .i64 a0_3, .int .i64 a0_4] 39 (0, 0))) := ⟨h0_⟩
              have n1_ : Aside0 (w30.heap[gb306]? = some (.cells #[.bool a2_0, .int .i64 a2_1, .int .i64 a2_2, .int .i64 a2_3, .int .i64 a2_4, .int .i64 a2_5] 43 (0, 0))) := ⟨h1_⟩
              have n2_ : Aside0 (w30.heap[gb307]? = some (.cells #[.int .i64 a3_0, .int .i64 a3_1] 44 (0, 0))) := ⟨h2_⟩
              have n3_ : Aside0 (Below w.heap.size w w30) := ⟨h3_⟩
              clear BK305 BK306 BK307 HB h0_ h1_ h2_ h3_
              have BK305 := n0_
              have BK306 := n1_
              have BK307 := n2_
              have HB := n3_
              clear n0_ n1_ n2_ n3_
              have hHeld : w30.cell? ⟨gb305, 0, none⟩ = some (.int .i64 a0_0) ∧ w30.cell? ⟨gb305, 1, none⟩ = some (.int .i64 a0_1) ∧ w30.cell? ⟨gb305, 2, none⟩ = some (.int .i64 a0_2) ∧ w30.cell? ⟨gb305, 3, none⟩ = some (.int .i64 a0_3) ∧ w30.cell? ⟨gb305, 4, none⟩ = some (.int .i64 a0_4) ∧ w30.cell? ⟨gb306, 0, none⟩ = some (.bool a2_0) ∧ w30.cell? ⟨gb306, 1, none⟩ = some (.int .i64 a2_1) ∧ w30.cell? ⟨gb306, 2, none⟩ = some (.int .i64 a2_2) ∧ w30.cell? ⟨gb306, 3, none⟩ = some (.int .i64 a2_3) ∧ w30.cell? ⟨gb306, 4, none⟩ = some (.int .i64 a2_4) ∧ w30.cell? ⟨gb306, 5, none⟩ = some (.int .i64 a2_5) ∧ w30.cell? ⟨gb307, 0, none⟩ = some (.int .i64 a3_0) ∧ w30.cell? ⟨gb307, 1, none⟩ = some (.int .i64 a3_1) := hS_
              refine norm_ (a' := ?_) ?_ ?_
              rotate_left
              ·simp only [putAll, Act.put, List.setIfInBounds_toArray, List.set_cons_zero, List.set_cons_succ]
               rfl
              refine two_ (i := 3) (j := 9) (Ni := some 21) (Nj := some 10) #[true, true, true, true, true, false, true, false, false, false, false] #[true, true, true, false, true, false, true, false, false, true, false] rfl rfl rfl rfl (two_of HT_.out (by kernel_rfl)) (by decide) (by decide) (fun K hK => ?_) (fun K hK => ?_)
              ·skip
               refine zG Try.func20 #[.slice A1 l1.length c1] ?_
               with_reducible refine (laws_toMarkS.calls k _ _ l1 t314 _ ?side1 ?side2 A11.out).mono ?_
               (case side1 => repeat (first | exact (Kd.C_below HR1.out HB.out) | (with_reducible refine Kd.C_alloc ?_ _) | (with_reducible refine Kd.C_drewN ?_ _) | (with_reducible refine Kd.C_drew ?_)))
               (case side2 => exact HC1.out)
               rintro e w31 ⟨v315, rfl, ho0, hb⟩
               refine ⟨_, rfl, ?_⟩
               have HO316 := Aside0.mk (Kd.R_lower ho0 (below_size (by repeat (first | (with_reducible first | exact HB.out | apply below_alloc | apply pw_below_drewN | apply below_drew1 | refine below_set ?_ GE305.out | refine below_set ?_ GE306.out | refine below_set ?_ GE307.out) | exact HB.out))))
               replace BK305 := zb BK305 hb
               replace BK306 := zb BK306 hb
               replace BK307 := zb BK307 hb
               replace HB := zB HB hb
               (try clear hb)
               (try clear ho0)
               refine hK.out _ _ ⟨zc BK305 0, zc BK305 1, zc BK305 2, zc BK305 3, zc BK305 4, zc BK306 0, zc BK306 1, zc BK306 2, zc BK306 3, zc BK306 4, zc BK306 5, zc BK307 0, zc BK307 1⟩ (fun hHeld => ?_)
               clear hK K
               refine zn 21 ?_
               exact norm_ (by first | (simp only [putAll, Act.put, List.setIfInBounds_toArray, List.set_cons_zero, List.set_cons_succ]; done) | (simp only [putAll, Act.put, List.setIfInBounds_toArray, List.set_cons_zero, List.set_cons_succ]; rfl)) (hJ1_3 (v315) _ ⟨hHeld, (zr HO316), (zy BK305), (zy BK306), (zy BK307), (by repeat (first | (with_reducible first | exact HB.out | apply below_alloc | apply pw_below_drewN | apply below_drew1 | refine below_set ?_ GE305.out | refine below_set ?_ GE306.out | refine below_set ?_ GE307.out) | exact HB.out))⟩)
              ·skip
               refine box_step ?hg (N := 10) ?hd (cs := #[.bool false, .int .i64 0, .int .i64 0, .int .i64 0, .int .i64 0, .int .i64 0]) (t := 29) ?hr ?_; (case hd => rfl); (case hg => rfl); (case hr => first | (go_simp; done) | (go_simp; rfl))
               intro gb331 hg w31 hbox hb
               have BK331 := Aside0.mk (hbox)
               have GW331 := zge HB hg
               have GE331 := GW331
               have NB305_331 := zl BK305 hg
               have NB331_305 := zg BK305 hg
               have NB306_331 := zl BK306 hg
               have NB331_306 := zg BK306 hg
               have NB307_331 := zl BK307 hg
               have NB331_307 := zg BK307 hg
               replace BK305 := zb BK305 hb
               replace BK306 := zb BK306 hb
               replace BK307 := zb BK307 hb
               replace HB := zB HB hb
               clear hb hbox hg
               refine hK.out _ _ ⟨zc BK305 0, zc BK305 1, zc BK305 2, zc BK305 3, zc BK305 4, zc BK306 0, zc BK306 1, zc BK306 2, zc BK306 3, zc BK306 4, zc BK306 5, zc BK307 0, zc BK307 1⟩ (fun hHeld => ?_)
               clear hK K
               refine zn 10 ?_
               exact norm_ (by first | (simp only [putAll, Act.put, List.setIfInBounds_toArray, List.set_cons_zero, List.set_cons_succ]; done) | (simp only [putAll, Act.put, List.setIfInBounds_toArray, List.set_cons_zero, List.set_cons_succ]; rfl)) (hJ1_9 (gb331) _ ⟨hHeld, (zy BK305), (zy BK306), (zy BK307), (zy BK331), GW331.out, GE331.out, NB305_331.out, NB331_305.out, NB306_331.out, NB331_306.out, NB307_331.out, NB331_307.out, (by repeat (first | (with_reducible first | exact HB.out | apply below_alloc | apply pw_below_drewN | apply below_drew1 | refine below_set ?_ GE305.out | refine below_set ?_ GE306.out | refine below_set ?_ GE307.out | refine below_set ?_ GE331.out) | exact HB.out))⟩)
            ·skip
             rintro gb331 w31 ⟨hS_, h0_, h1_, h2_, h3_, h4_, h5_, h6_, h7_, h8_, h9_, h10_, h11_, h12_⟩
             have n0_ : Aside0 (w31.heap[gb305]? = some (.cells #[.int .i64 a0_0, .int .i64 a0_1, .int .i64 a0_2, .int .i64 a0_3, .int .i64 a0_4] 39 (0, 0))) := ⟨h0_⟩
             have n1_ : Aside0 (w31.heap[gb306]? = some (.cells #[.bool a2_0, .int .i64 a2_1, .int .i64 a2_2, .int .i64 a2_3, .int .i64 a2_4, .int .i64 a2_5] 43 (0, 0))) := ⟨h1_⟩
             have n2_ : Aside0 (w31.heap[gb307]? = some (.cells #[.int .i64 a3_0, .int .i64 a3_1] 44 (0, 0))) := ⟨h2_⟩
             have n3_ : Aside0 (w31.heap[gb331]? = some (.cells #[.bool false, .int .i64 0, .int .i64 0, .int .i64 0, .int .i64 0, .int .i64 0] 29 (0, 0))) := ⟨h3_⟩
             have n4_ : Aside0 (w.heap.size ≤ gb331) := ⟨h4_⟩
             have n5_ : Aside0 (w.heap.size ≤ gb331) := ⟨h5_⟩
             have n6_ : Aside0 (gb305 ≠ gb331) := ⟨h6_⟩
             have n7_ : Aside0 (gb331 ≠ gb305) := ⟨h7_⟩
             have n8_ : Aside0 (gb306 ≠ gb331) := ⟨h8_⟩
             have n9_ : Aside0 (gb331 ≠ gb306) := ⟨h9_⟩
             have n10_ : Aside0 (gb307 ≠ gb331) := ⟨h10_⟩
             have n11_ : Aside0 (gb331 ≠ gb307) := ⟨h11_⟩
             have n12_ : Aside0 (Below w.heap.size w w31) := ⟨h12_⟩
             clear BK305 BK306 BK307 HB h0_ h1_ h2_ h3_ h4_ h5_ h6_ h7_ h8_ h9_ h10_ h11_ h12_
             have BK305 := n0_
             have BK306 := n1_
             have BK307 := n2_
             have BK331 := n3_
             have GW331 := n4_
             have GE331 := n5_
             have NB305_331 := n6_
             have NB331_305 := n7_
             have NB306_331 := n8_
             have NB331_306 := n9_
             have NB307_331 := n10_
             have NB331_307 := n11_
             have HB := n12_
             clear n0_ n1_ n2_ n3_ n4_ n5_ n6_ n7_ n8_ n9_ n10_ n11_ n12_
             have hHeld : w31.cell? ⟨gb305, 0, none⟩ = some (.int .i64 a0_0) ∧ w31.cell? ⟨gb305, 1, none⟩ = some (.int .i64 a0_1) ∧ w31.cell? ⟨gb305, 2, none⟩ = some (.int .i64 a0_2) ∧ w31.cell? ⟨gb305, 3, none⟩ = some (.int .i64 a0_3) ∧ w31.cell? ⟨gb305, 4, none⟩ = some (.int .i64 a0_4) ∧ w31.cell? ⟨gb306, 0, none⟩ = some (.bool a2_0) ∧ w31.cell? ⟨gb306, 1, none⟩ = some (.int .i64 a2_1) ∧ w31.cell? ⟨gb306, 2, none⟩ = some (.int .i64 a2_2) ∧ w31.cell? ⟨gb306, 3, none⟩ = some (.int .i64 a2_3) ∧ w31.cell? ⟨gb306, 4, none⟩ = some (.int .i64 a2_4) ∧ w31.cell? ⟨gb306, 5, none⟩ = some (.int .i64 a2_5) ∧ w31.cell? ⟨gb307, 0, none⟩ = some (.int .i64 a3_0) ∧ w31.cell? ⟨gb307, 1, none⟩ = some (.int .i64 a3_1) := hS_
             refine norm_ (a' := ?_) ?_ ?_
             rotate_left
             ·simp only [putAll, Act.put, List.setIfInBounds_toArray, List.set_cons_zero, List.set_cons_succ]
              rfl
             refine zo 3 (some 21) (zm 11 607) HT_ (fun K hK => ?_)
             refine zG Try.func20 #[.slice A1 l1.length c1] ?_
             with_reducible refine (laws_toMarkS.calls k _ _ l1 t314 _ ?side1 ?side2 A11.out).mono ?_
             (case side1 => repeat (first | exact (Kd.C_below HR1.out HB.out) | (with_reducible refine Kd.C_alloc ?_ _) | (with_reducible refine Kd.C_drewN ?_ _) | (with_reducible refine Kd.C_drew ?_)))
             (case side2 => exact HC1.out)
             rintro e w32 ⟨v315, rfl, ho0, hb⟩
             refine ⟨_, rfl, ?_⟩
             have HO316 := Aside0.mk (Kd.R_lower ho0 (below_size (by repeat (first | (with_reducible first | exact HB.out | apply below_alloc | apply pw_below_drewN | apply below_drew1 | refine below_set ?_ GE305.out | refine below_set ?_ GE306.out | refine below_set ?_ GE307.out | refine below_set ?_ GE331.out) | exact HB.out))))
             replace BK305 := zb BK305 hb
             replace BK306 := zb BK306 hb
             replace BK307 := zb BK307 hb
             replace BK331 := zb BK331 hb
             replace HB := zB HB hb
             (try clear hb)
             (try clear ho0)
             refine hK.out _ _ ⟨zc BK305 0, zc BK305 1, zc BK305 2, zc BK305 3, zc BK305 4, zc BK306 0, zc BK306 1, zc BK306 2, zc BK306 3, zc BK306 4, zc BK306 5, zc BK307 0, zc BK307 1⟩ (fun hHeld => ?_)
             clear hK K
             refine zn 21 ?_
             exact norm_ (by first | (simp only [putAll, Act.put, List.setIfInBounds_toArray, List.set_cons_zero, List.set_cons_succ]; done) | (simp only [putAll, Act.put, List.setIfInBounds_toArray, List.set_cons_zero, List.set_cons_succ]; rfl)) (hJ1_3_9 (v315, gb331) _ ⟨hHeld, (zr HO316), (zy BK305), (zy BK306), (zy BK307), (zy BK331), GW331.out, GE331.out, NB305_331.out, NB331_305.out, NB306_331.out, NB331_306.out, NB307_331.out, NB331_307.out, (by repeat (first | (with_reducible first | exact HB.out | apply below_alloc | apply pw_below_drewN | apply below_drew1 | refine below_set ?_ GE305.out | refine below_set ?_ GE306.out | refine below_set ?_ GE307.out | refine below_set ?_ GE331.out) | exact HB.out))⟩)
           ·skip
            rintro v315 w31 ⟨hS_, h0_, h1_, h2_, h3_, h4_⟩
            have n0_ : Aside0 (Kd.R k37 37 w31 w.heap.size (fun _ => True) v315 t314) := ⟨h0_⟩
            have n1_ : Aside0 (w31.heap[gb305]? = some (.cells #[.int .i64 a0_0, .int .i64 a0_1, .int .i64 a0_2, .int .i64 a0_3, .int .i64 a0_4] 39 (0, 0))) := ⟨h1_⟩
            have n2_ : Aside0 (w31.heap[gb306]? = some (.cells #[.bool a2_0, .int .i64 a2_1, .int .i64 a2_2, .int .i64 a2_3, .int .i64 a2_4, .int .i64 a2_5] 43 (0, 0))) := ⟨h2_⟩
            have n3_ : Aside0 (w31.heap[gb307]? = some (.cells #[.int .i64 a3_0, .int .i64 a3_1] 44 (0, 0))) := ⟨h3_⟩
            have n4_ : Aside0 (Below w.heap.size w w31) := ⟨h4_⟩
            clear BK305 BK306 BK307 HB h0_ h1_ h2_ h3_ h4_
            have HO316 := n0_
            have BK305 := n1_
            have BK306 := n2_
            have BK307 := n3_
            have HB := n4_
            clear n0_ n1_ n2_ n3_ n4_
            have hHeld : w31.cell? ⟨gb305, 0, none⟩ = some (.int .i64 a0_0) ∧ w31.cell? ⟨gb305, 1, none⟩ = some (.int .i64 a0_1) ∧ w31.cell? ⟨gb305, 2, none⟩ = some (.int .i64 a0_2) ∧ w31.cell? ⟨gb305, 3, none⟩ = some (.int .i64 a0_3) ∧ w31.cell? ⟨gb305, 4, none⟩ = some (.int .i64 a0_4) ∧ w31.cell? ⟨gb306, 0, none⟩ = some (.bool a2_0) ∧ w31.cell? ⟨gb306, 1, none⟩ = some (.int .i64 a2_1) ∧ w31.cell? ⟨gb306, 2, none⟩ = some (.int .i64 a2_2) ∧ w31.cell? ⟨gb306, 3, none⟩ = some (.int .i64 a2_3) ∧ w31.cell? ⟨gb306, 4, none⟩ = some (.int .i64 a2_4) ∧ w31.cell? ⟨gb306, 5, none⟩ = some (.int .i64 a2_5) ∧ w31.cell? ⟨gb307, 0, none⟩ = some (.int .i64 a3_0) ∧ w31.cell? ⟨gb307, 1, none⟩ = some (.int .i64 a3_1) := hS_
            refine norm_ (a' := ?_) ?_ ?_
            rotate_left
            ·simp only [putAll, Act.put, List.setIfInBounds_toArray, List.set_cons_zero, List.set_cons_succ]
             rfl
            refine two_ (i := 5) (j := 9) (Ni := some 23) (Nj := some 10) #[true, true, true, true, true, true, true, false, false, false, false] #[true, true, true, true, true, false, true, false, false, true, false] rfl rfl rfl rfl (two_of HT_.out (by kernel_rfl)) (by decide) (by decide) (fun K hK => ?_) (fun K hK => ?_)
            ·skip
             refine zG Try.func21 #[.agg #[.bool a2_0, .int .i64 a2_1, .int .i64 a2_2, .int .i64 a2_3, .int .i64 a2_4, .int .i64 a2_5]] ?_
             with_reducible refine (laws_toState.calls a2_0 a2_1 a2_2 a2_3 a2_4 a2_5 t317 t318 t319 t320 t321 t322 _ A12.out).mono ?_
             rintro e w32 ⟨rfl, hb⟩
             refine ⟨_, rfl, ?_⟩
             replace BK305 := zb BK305 hb
             replace BK306 := zb BK306 hb
             replace BK307 := zb BK307 hb
             replace HB := zB HB hb
             replace HO316 := Aside0.mk (Kd.R_below (zr HO316) hb)
             (try clear hb)
             refine hK.out _ _ ⟨zc BK305 0, zc BK305 1, zc BK305 2, zc BK305 3, zc BK305 4, zc BK306 0, zc BK306 1, zc BK306 2, zc BK306 3, zc BK306 4, zc BK306 5, zc BK307 0, zc BK307 1⟩ (fun hHeld => ?_)
             clear hK K
             refine zn 23 ?_
             exact norm_ (by first | (simp only [putAll, Act.put, List.setIfInBounds_toArray, List.set_cons_zero, List.set_cons_succ]; done) | (simp only [putAll, Act.put, List.setIfInBounds_toArray, List.set_cons_zero, List.set_cons_succ]; rfl)) (hJ1_3_5 (v315) _ ⟨hHeld, (zr HO316), (zy BK305), (zy BK306), (zy BK307), (by repeat (first | (with_reducible first | exact HB.out | apply below_alloc | apply pw_below_drewN | apply below_drew1 | refine below_set ?_ GE305.out | refine below_set ?_ GE306.out | refine below_set ?_ GE307.out) | exact HB.out))⟩)
            ·skip
             refine box_step ?hg (N := 10) ?hd (cs := #[.bool false, .int .i64 0, .int .i64 0, .int .i64 0, .int .i64 0, .int .i64 0]) (t := 29) ?hr ?_; (case hd => rfl); (case hg => rfl); (case hr => first | (go_simp; done) | (go_simp; rfl))
             intro gb331 hg w32 hbox hb
             have BK331 := Aside0.mk (hbox)
             have GW331 := zge HB hg
             have GE331 := GW331
             have NB305_331 := zl BK305 hg
             have NB331_305 := zg BK305 hg
             have NB306_331 := zl BK306 hg
             have NB331_306 := zg BK306 hg
             have NB307_331 := zl BK307 hg
             have NB331_307 := zg BK307 hg
             replace BK305 := zb BK305 hb
             replace BK306 := zb BK306 hb
             replace BK307 := zb BK307 hb
             replace HB := zB HB hb
             replace HO316 := Aside0.mk (Kd.R_below (zr HO316) hb)
             clear hb hbox hg
             refine hK.out _ _ ⟨zc BK305 0, zc BK305 1, zc BK305 2, zc BK305 3, zc BK305 4, zc BK306 0, zc BK306 1, zc BK306 2, zc BK306 3, zc BK306 4, zc BK306 5, zc BK307 0, zc BK307 1⟩ (fun hHeld => ?_)
             clear hK K
             refine zn 10 ?_
             exact norm_ (by first | (simp only [putAll, Act.put, List.setIfInBounds_toArray, List.set_cons_zero, List.set_cons_succ]; done) | (simp only [putAll, Act.put, List.setIfInBounds_toArray, List.set_cons_zero, List.set_cons_succ]; rfl)) (hJ1_3_9 (v315, gb331) _ ⟨hHeld, (zr HO316), (zy BK305), (zy BK306), (zy BK307), (zy BK331), GW331.out, GE331.out, NB305_331.out, NB331_305.out, NB306_331.out, NB331_306.out, NB307_331.out, NB331_307.out, (by repeat (first | (with_reducible first | exact HB.out | apply below_alloc | apply pw_below_drewN | apply below_drew1 | refine below_set ?_ GE305.out | refine below_set ?_ GE306.out | refine below_set ?_ GE307.out | refine below_set ?_ GE331.out) | exact HB.out))⟩)
          ·skip
           rintro ⟨v315, gb331⟩ w32 ⟨hS_, h0_, h1_, h2_, h3_, h4_, h5_, h6_, h7_, h8_, h9_, h10_, h11_, h12_, h13_⟩
           have n0_ : Aside0 (Kd.R k37 37 w32 w.heap.size (fun _ => True) v315 t314) := ⟨h0_⟩
           have n1_ : Aside0 (w32.heap[gb305]? = some (.cells #[.int .i64 a0_0, .int .i64 a0_1, .int .i64 a0_2, .int .i64 a0_3, .int .i64 a0_4] 39 (0, 0))) := ⟨h1_⟩
           have n2_ : Aside0 (w32.heap[gb306]? = some (.cells #[.bool a2_0, .int .i64 a2_1, .int .i64 a2_2, .int .i64 a2_3, .int .i64 a2_4, .int .i64 a2_5] 43 (0, 0))) := ⟨h2_⟩
           have n3_ : Aside0 (w32.heap[gb307]? = some (.cells #[.int .i64 a3_0, .int .i64 a3_1] 44 (0, 0))) := ⟨h3_⟩
           have n4_ : Aside0 (w32.heap[gb331]? = some (.cells #[.bool false, .int .i64 0, .int .i64 0, .int .i64 0, .int .i64 0, .int .i64 0] 29 (0, 0))) := ⟨h4_⟩
           have n5_ : Aside0 (w.heap.size ≤ gb331) := ⟨h5_⟩
           have n6_ : Aside0 (w.heap.size ≤ gb331) := ⟨h6_⟩
           have n7_ : Aside0 (gb305 ≠ gb331) := ⟨h7_⟩
           have n8_ : Aside0 (gb331 ≠ gb305) := ⟨h8_⟩
           have n9_ : Aside0 (gb306 ≠ gb331) := ⟨h9_⟩
           have n10_ : Aside0 (gb331 ≠ gb306) := ⟨h10_⟩
           have n11_ : Aside0 (gb307 ≠ gb331) := ⟨h11_⟩
           have n12_ : Aside0 (gb331 ≠ gb307) := ⟨h12_⟩
           have n13_ : Aside0 (Below w.heap.size w w32) := ⟨h13_⟩
           clear BK305 BK306 BK307 HB h0_ h1_ h2_ h3_ h4_ h5_ h6_ h7_ h8_ h9_ h10_ h11_ h12_ h13_
           have HO316 := n0_
           have BK305 := n1_
           have BK306 := n2_
           have BK307 := n3_
           have BK331 := n4_
           have GW331 := n5_
           have GE331 := n6_
           have NB305_331 := n7_
           have NB331_305 := n8_
           have NB306_331 := n9_
           have NB331_306 := n10_
           have NB307_331 := n11_
           have NB331_307 := n12_
           have HB := n13_
           clear n0_ n1_ n2_ n3_ n4_ n5_ n6_ n7_ n8_ n9_ n10_ n11_ n12_ n13_
           have hHeld : w32.cell? ⟨gb305, 0, none⟩ = some (.int .i64 a0_0) ∧ w32.cell? ⟨gb305, 1, none⟩ = some (.int .i64 a0_1) ∧ w32.cell? ⟨gb305, 2, none⟩ = some (.int .i64 a0_2) ∧ w32.cell? ⟨gb305, 3, none⟩ = some (.int .i64 a0_3) ∧ w32.cell? ⟨gb305, 4, none⟩ = some (.int .i64 a0_4) ∧ w32.cell? ⟨gb306, 0, none⟩ = some (.bool a2_0) ∧ w32.cell? ⟨gb306, 1, none⟩ = some (.int .i64 a2_1) ∧ w32.cell? ⟨gb306, 2, none⟩ = some (.int .i64 a2_2) ∧ w32.cell? ⟨gb306, 3, none⟩ = some (.int .i64 a2_3) ∧ w32.cell? ⟨gb306, 4, none⟩ = some (.int .i64 a2_4) ∧ w32.cell? ⟨gb306, 5, none⟩ = some (.int .i64 a2_5) ∧ w32.cell? ⟨gb307, 0, none⟩ = some (.int .i64 a3_0) ∧ w32.cell? ⟨gb307, 1, none⟩ = some (.int .i64 a3_1) := hS_
           refine norm_ (a' := ?_) ?_ ?_
           rotate_left
           ·simp only [putAll, Act.put, List.setIfInBounds_toArray, List.set_cons_zero, List.set_cons_succ]
            rfl
           refine zo 5 (some 23) (zm 11 639) HT_ (fun K hK => ?_)
           refine zG Try.func21 #[.agg #[.bool a2_0, .int .i64 a2_1, .int .i64 a2_2, .int .i64 a2_3, .int .i64 a2_4, .int .i64 a2_5]] ?_
           with_reducible refine (laws_toState.calls a2_0 a2_1 a2_2 a2_3 a2_4 a2_5 t317 t318 t319 t320 t321 t322 _ A12.out).mono ?_
           rintro e w33 ⟨rfl, hb⟩
           refine ⟨_, rfl, ?_⟩
           replace BK305 := zb BK305 hb
           replace BK306 := zb BK306 hb
           replace BK307 := zb BK307 hb
           replace BK331 := zb BK331 hb
           replace HB := zB HB hb
           replace HO316 := Aside0.mk (Kd.R_below (zr HO316) hb)
           (try clear hb)
           refine hK.out _ _ ⟨zc BK305 0, zc BK305 1, zc BK305 2, zc BK305 3, zc BK305 4, zc BK306 0, zc BK306 1, zc BK306 2, zc BK306 3, zc BK306 4, zc BK306 5, zc BK307 0, zc BK307 1⟩ (fun hHeld => ?_)
           clear hK K
           refine zn 23 ?_
           exact norm_ (by first | (simp only [putAll, Act.put, List.setIfInBounds_toArray, List.set_cons_zero, List.set_cons_succ]; done) | (simp only [putAll, Act.put, List.setIfInBounds_toArray, List.set_cons_zero, List.set_cons_succ]; rfl)) (hJ1_3_5_9 (v315, gb331) _ ⟨hHeld, (zr HO316), (zy BK305), (zy BK306), (zy BK307), (zy BK331), GW331.out, GE331.out, NB305_331.out, NB331_305.out, NB306_331.out, NB331_306.out, NB307_331.out, NB331_307.out, (by repeat (first | (with_reducible first | exact HB.out | apply below_alloc | apply pw_below_drewN | apply below_drew1 | refine below_set ?_ GE305.out | refine below_set ?_ GE306.out | refine below_set ?_ GE307.out | refine below_set ?_ GE331.out) | exact HB.out))⟩)
         ·skip
          rintro v315 w32 ⟨hS_, h0_, h1_, h2_, h3_, h4_⟩
          have n0_ : Aside0 (Kd.R k37 37 w32 w.heap.size (fun _ => True) v315 t314) := ⟨h0_⟩
          have n1_ : Aside0 (w32.heap[gb305]? = some (.cells #[.int .i64 a0_0, .int .i64 a0_1, .int .i64 a0_2, .int .i64 a0_3, .int .i64 a0_4] 39 (0, 0))) := ⟨h1_⟩
          have n2_ : Aside0 (w32.heap[gb306]? = some (.cells #[.bool a2_0, .int .i64 a2_1, .int .i64 a2_2, .int .i64 a2_3, .int .i64 a2_4, .int .i64 a2_5] 43 (0, 0))) := ⟨h2_⟩
          have n3_ : Aside0 (w32.heap[gb307]? = some (.cells #[.int .i64 a3_0, .int .i64 a3_1] 44 (0, 0))) := ⟨h3_⟩
          have n4_ : Aside0 (Below w.heap.size w w32) := ⟨h4_⟩
          clear BK305 BK306 BK307 HB h0_ h1_ h2_ h3_ h4_
          have HO316 := n0_
          have BK305 := n1_
          have BK306 := n2_
          have BK307 := n3_
          have HB := n4_
          clear n0_ n1_ n2_ n3_ n4_
          have hHeld : w32.cell? ⟨gb305, 0, none⟩ = some (.int .i64 a0_0) ∧ w32.cell? ⟨gb305, 1, none⟩ = some (.int .i64 a0_1) ∧ w32.cell? ⟨gb305, 2, none⟩ = some (.int .i64 a0_2) ∧ w32.cell? ⟨gb305, 3, none⟩ = some (.int .i64 a0_3) ∧ w32.cell? ⟨gb305, 4, none⟩ = some (.int .i64 a0_4) ∧ w32.cell? ⟨gb306, 0, none⟩ = some (.bool a2_0) ∧ w32.cell? ⟨gb306, 1, none⟩ = some (.int .i64 a2_1) ∧ w32.cell? ⟨gb306, 2, none⟩ = some (.int .i64 a2_2) ∧ w32.cell? ⟨gb306, 3, none⟩ = some (.int .i64 a2_3) ∧ w32.cell? ⟨gb306, 4, none⟩ = some (.int .i64 a2_4) ∧ w32.cell? ⟨gb306, 5, none⟩ = some (.int .i64 a2_5) ∧ w32.cell? ⟨gb307, 0, none⟩ = some (.int .i64 a3_0) ∧ w32.cell? ⟨gb307, 1, none⟩ = some (.int .i64 a3_1) := hS_
          refine norm_ (a' := ?_) ?_ ?_
          rotate_left
          ·simp only [putAll, Act.put, List.setIfInBounds_toArray, List.set_cons_zero, List.set_cons_succ]
           rfl
          refine two_ (i := 7) (j := 9) (Ni := some 25) (Nj := some 10) #[true, true, true, true, true, true, true, true, false, false, false] #[true, true, true, true, true, true, true, false, false, true, false] rfl rfl rfl rfl (two_of HT_.out (by kernel_rfl)) (by decide) (by decide) (fun K hK => ?_) (fun K hK => ?_)
          ·skip
           refine zG Try.func22 #[.agg #[.int .i64 a3_0, .int .i64 a3_1]] ?_
           with_reducible refine (laws_toEvent.calls a3_0 a3_1 t323 t324 _ A13.out).mono ?_
           rintro e w33 ⟨rfl, hb⟩
           refine ⟨_, rfl, ?_⟩
           replace BK305 := zb BK305 hb
           replace BK306 := zb BK306 hb
           replace BK307 := zb BK307 hb
           replace HB := zB HB hb
           replace HO316 := Aside0.mk (Kd.R_below (zr HO316) hb)
           (try clear hb)
           refine hK.out _ _ ⟨zc BK305 0, zc BK305 1, zc BK305 2, zc BK305 3, zc BK305 4, zc BK306 0, zc BK306 1, zc BK306 2, zc BK306 3, zc BK306 4, zc BK306 5, zc BK307 0, zc BK307 1⟩ (fun hHeld => ?_)
           clear hK K
           refine zn 25 ?_
           exact norm_ (by first | (simp only [putAll, Act.put, List.setIfInBounds_toArray, List.set_cons_zero, List.set_cons_succ]; done) | (simp only [putAll, Act.put, List.setIfInBounds_toArray, List.set_cons_zero, List.set_cons_succ]; rfl)) (hJ1_3_5_7 (v315) _ ⟨hHeld, (zr HO316), (zy BK305), (zy BK306), (zy BK307), (by repeat (first | (with_reducible first | exact HB.out | apply below_alloc | apply pw_below_drewN | apply below_drew1 | refine below_set ?_ GE305.out | refine below_set ?_ GE306.out | refine below_set ?_ GE307.out) | exact HB.out))⟩)
          ·skip
           refine box_step ?hg (N := 10) ?hd (cs := #[.bool false, .int .i64 0, .int .i64 0, .int .i64 0, .int .i64 0, .int .i64 0]) (t := 29) ?hr ?_; (case hd => rfl); (case hg => rfl); (case hr => first | (go_simp; done) | (go_simp; rfl))
           intro gb331 hg w33 hbox hb
           have BK331 := Aside0.mk (hbox)
           have GW331 := zge HB hg
           have GE331 := GW331
           have NB305_331 := zl BK305 hg
           have NB331_305 := zg BK305 hg
           have NB306_331 := zl BK306 hg
           have NB331_306 := zg BK306 hg
           have NB307_331 := zl BK307 hg
           have NB331_307 := zg BK307 hg
           replace BK305 := zb BK305 hb
           replace BK306 := zb BK306 hb
           replace BK307 := zb BK307 hb
           replace HB := zB HB hb
           replace HO316 := Aside0.mk (Kd.R_below (zr HO316) hb)
           clear hb hbox hg
           refine hK.out _ _ ⟨zc BK305 0, zc BK305 1, zc BK305 2, zc BK305 3, zc BK305 4, zc BK306 0, zc BK306 1, zc BK306 2, zc BK306 3, zc BK306 4, zc BK306 5, zc BK307 0, zc BK307 1⟩ (fun hHeld => ?_)
           clear hK K
           refine zn 10 ?_
           exact norm_ (by first | (simp only [putAll, Act.put, List.setIfInBounds_toArray, List.set_cons_zero, List.set_cons_succ]; done) | (simp only [putAll, Act.put, List.setIfInBounds_toArray, List.set_cons_zero, List.set_cons_succ]; rfl)) (hJ1_3_5_9 (v315, gb331) _ ⟨hHeld, (zr HO316), (zy BK305), (zy BK306), (zy BK307), (zy BK331), GW331.out, GE331.out, NB305_331.out, NB331_305.out, NB306_331.out, NB331_306.out, NB307_331.out, NB331_307.out, (by repeat (first | (with_reducible first | exact HB.out | apply below_alloc | apply pw_below_drewN | apply below_drew1 | refine below_set ?_ GE305.out | refine below_set ?_ GE306.out | refine below_set ?_ GE307.out | refine below_set ?_ GE331.out) | exact HB.out))⟩)
        ·skip
         rintro ⟨v315, gb331⟩ w33 ⟨hS_, h0_, h1_, h2_, h3_, h4_, h5_, h6_, h7_, h8_, h9_, h10_, h11_, h12_, h13_⟩
         have n0_ : Aside0 (Kd.R k37 37 w33 w.heap.size (fun _ => True) v315 t314) := ⟨h0_⟩
         have n1_ : Aside0 (w33.heap[gb305]? = some (.cells #[.int .i64 a0_0, .int .i64 a0_1, .int .i64 a0_2, .int .i64 a0_3, .int .i64 a0_4] 39 (0, 0))) := ⟨h1_⟩
         have n2_ : Aside0 (w33.heap[gb306]? = some (.cells #[.bool a2_0, .int .i64 a2_1, .int .i64 a2_2, .int .i64 a2_3, .int .i64 a2_4, .int .i64 a2_5] 43 (0, 0))) := ⟨h2_⟩
         have n3_ : Aside0 (w33.heap[gb307]? = some (.cells #[.int .i64 a3_0, .int .i64 a3_1] 44 (0, 0))) := ⟨h3_⟩
         have n4_ : Aside0 (w33.heap[gb331]? = some (.cells #[.bool false, .int .i64 0, .int .i64 0, .int .i64 0, .int .i64 0, .int .i64 0] 29 (0, 0))) := ⟨h4_⟩
         have n5_ : Aside0 (w.heap.size ≤ gb331) := ⟨h5_⟩
         have n6_ : Aside0 (w.heap.size ≤ gb331) := ⟨h6_⟩
         have n7_ : Aside0 (gb305 ≠ gb331) := ⟨h7_⟩
         have n8_ : Aside0 (gb331 ≠ gb305) := ⟨h8_⟩
         have n9_ : Aside0 (gb306 ≠ gb331) := ⟨h9_⟩
         have n10_ : Aside0 (gb331 ≠ gb306) := ⟨h10_⟩
         have n11_ : Aside0 (gb307 ≠ gb331) := ⟨h11_⟩
         have n12_ : Aside0 (gb331 ≠ gb307) := ⟨h12_⟩
         have n13_ : Aside0 (Below w.heap.size w w33) := ⟨h13_⟩
         clear BK305 BK306 BK307 HB h0_ h1_ h2_ h3_ h4_ h5_ h6_ h7_ h8_ h9_ h10_ h11_ h12_ h13_
         have HO316 := n0_
         have BK305 := n1_
         have BK306 := n2_
         have BK307 := n3_
         have BK331 := n4_
         have GW331 := n5_
         have GE331 := n6_
         have NB305_331 := n7_
         have NB331_305 := n8_
         have NB306_331 := n9_
         have NB331_306 := n10_
         have NB307_331 := n11_
         have NB331_307 := n12_
         have HB := n13_
         clear n0_ n1_ n2_ n3_ n4_ n5_ n6_ n7_ n8_ n9_ n10_ n11_ n12_ n13_
         have hHeld : w33.cell? ⟨gb305, 0, none⟩ = some (.int .i64 a0_0) ∧ w33.cell? ⟨gb305, 1, none⟩ = some (.int .i64 a0_1) ∧ w33.cell? ⟨gb305, 2, none⟩ = some (.int .i64 a0_2) ∧ w33.cell? ⟨gb305, 3, none⟩ = some (.int .i64 a0_3) ∧ w33.cell? ⟨gb305, 4, none⟩ = some (.int .i64 a0_4) ∧ w33.cell? ⟨gb306, 0, none⟩ = some (.bool a2_0) ∧ w33.cell? ⟨gb306, 1, none⟩ = some (.int .i64 a2_1) ∧ w33.cell? ⟨gb306, 2, none⟩ = some (.int .i64 a2_2) ∧ w33.cell? ⟨gb306, 3, none⟩ = some (.int .i64 a2_3) ∧ w33.cell? ⟨gb306, 4, none⟩ = some (.int .i64 a2_4) ∧ w33.cell? ⟨gb306, 5, none⟩ = some (.int .i64 a2_5) ∧ w33.cell? ⟨gb307, 0, none⟩ = some (.int .i64 a3_0) ∧ w33.cell? ⟨gb307, 1, none⟩ = some (.int .i64 a3_1) := hS_
         refine norm_ (a' := ?_) ?_ ?_
         rotate_left
         ·simp only [putAll, Act.put, List.setIfInBounds_toArray, List.set_cons_zero, List.set_cons_succ]
          rfl
         refine zo 7 (some 25) (zm 11 767) HT_ (fun K hK => ?_)
         refine zG Try.func22 #[.agg #[.int .i64 a3_0, .int .i64 a3_1]] ?_
         with_reducible refine (laws_toEvent.calls a3_0 a3_1 t323 t324 _ A13.out).mono ?_
         rintro e w34 ⟨rfl, hb⟩
         refine ⟨_, rfl, ?_⟩
         replace BK305 := zb BK305 hb
         replace BK306 := zb BK306 hb
         replace BK307 := zb BK307 hb
         replace BK331 := zb BK331 hb
         replace HB := zB HB hb
         replace HO316 := Aside0.mk (Kd.R_below (zr HO316) hb)
         (try clear hb)
         refine hK.out _ _ ⟨zc BK305 0, zc BK305 1, zc BK305 2, zc BK305 3, zc BK305 4, zc BK306 0, zc BK306 1, zc BK306 2, zc BK306 3, zc BK306 4, zc BK306 5, zc BK307 0, zc BK307 1⟩ (fun hHeld => ?_)
         clear hK K
         refine zn 25 ?_
         exact norm_ (by first | (simp only [putAll, Act.put, List.setIfInBounds_toArray, List.set_cons_zero, List.set_cons_succ]; done) | (simp only [putAll, Act.put, List.setIfInBounds_toArray, List.set_cons_zero, List.set_cons_succ]; rfl)) (hJ1_3_5_7_9 (v315, gb331) _ ⟨hHeld, (zr HO316), (zy BK305), (zy BK306), (zy BK307), (zy BK331), GW331.out, GE331.out, NB305_331.out, NB331_305.out, NB306_331.out, NB331_306.out, NB307_331.out, NB331_307.out, (by repeat (first | (with_reducible first | exact HB.out | apply below_alloc | apply pw_below_drewN | apply below_drew1 | refine below_set ?_ GE305.out | refine below_set ?_ GE306.out | refine below_set ?_ GE307.out | refine below_set ?_ GE331.out) | exact HB.out))⟩)
       ·skip
        rintro v315 w33 ⟨hS_, h0_, h1_, h2_, h3_, h4_⟩
        have n0_ : Aside0 (Kd.R k37 37 w33 w.heap.size (fun _ => True) v315 t314) := ⟨h0_⟩
        have n1_ : Aside0 (w33.heap[gb305]? = some (.cells #[.int .i64 a0_0, .int .i64 a0_1, .int .i64 a0_2, .int .i64 a0_3, .int .i64 a0_4] 39 (0, 0))) := ⟨h1_⟩
        have n2_ : Aside0 (w33.heap[gb306]? = some (.cells #[.bool a2_0, .int .i64 a2_1, .int .i64 a2_2, .int .i64 a2_3, .int .i64 a2_4, .int .i64 a2_5] 43 (0, 0))) := ⟨h2_⟩
        have n3_ : Aside0 (w33.heap[gb307]? = some (.cells #[.int .i64 a3_0, .int .i64 a3_1] 44 (0, 0))) := ⟨h3_⟩
        have n4_ : Aside0 (Below w.heap.size w w33) := ⟨h4_⟩
        clear BK305 BK306 BK307 HB h0_ h1_ h2_ h3_ h4_
        have HO316 := n0_
        have BK305 := n1_
        have BK306 := n2_
        have BK307 := n3_
        have HB := n4_
        clear n0_ n1_ n2_ n3_ n4_
        have hHeld : w33.cell? ⟨gb305, 0, none⟩ = some (.int .i64 a0_0) ∧ w33.cell? ⟨gb305, 1, none⟩ = some (.int .i64 a0_1) ∧ w33.cell? ⟨gb305, 2, none⟩ = some (.int .i64 a0_2) ∧ w33.cell? ⟨gb305, 3, none⟩ = some (.int .i64 a0_3) ∧ w33.cell? ⟨gb305, 4, none⟩ = some (.int .i64 a0_4) ∧ w33.cell? ⟨gb306, 0, none⟩ = some (.bool a2_0) ∧ w33.cell? ⟨gb306, 1, none⟩ = some (.int .i64 a2_1) ∧ w33.cell? ⟨gb306, 2, none⟩ = some (.int .i64 a2_2) ∧ w33.cell? ⟨gb306, 3, none⟩ = some (.int .i64 a2_3) ∧ w33.cell? ⟨gb306, 4, none⟩ = some (.int .i64 a2_4) ∧ w33.cell? ⟨gb306, 5, none⟩ = some (.int .i64 a2_5) ∧ w33.cell? ⟨gb307, 0, none⟩ = some (.int .i64 a3_0) ∧ w33.cell? ⟨gb307, 1, none⟩ = some (.int .i64 a3_1) := hS_
        obtain ⟨Ao34, co34, eo34⟩ := Kd.R_slice HO316.out
        (first | subst eo34 | (injection eo34 with f1_ f2_ f3_; have f4_ := f1_.symm; have f5_ := f3_.symm; clear f1_ f2_ f3_; subst f4_; subst f5_))
        refine norm_ (a' := ?_) ?_ ?_
        rotate_left
        ·simp only [putAll, Act.put, List.setIfInBounds_toArray, List.set_cons_zero, List.set_cons_succ]
         rfl
        refine two_ (i := 8) (j := 9) (Ni := some 26) (Nj := some 10) #[true, true, true, true, true, true, true, true, true, false, false] #[true, true, true, true, true, true, true, true, false, true, false] rfl rfl rfl rfl (two_of HT_.out (by kernel_rfl)) (by decide) (by decide) (fun K hK => ?_) (fun K hK => ?_)
        ·skip
         refine zG Try.func17 #[.agg #[.int .i64 t309, .int .i64 t310, .int .i64 t311, .int .i64 t312, .int .i64 t313], .slice Ao34 t314.length co34, .agg #[.bool t317, .int .i64 t318, .int .i64 t319, .int .i64 t320, .int .i64 t321, .int .i64 t322], .agg #[.int .i64 t323, .int .i64 t324]] ?_
         with_reducible refine (spec_Do.calls k t309 t310 t311 t312 t313 _ _ t314 t317 t318 t319 t320 t321 t322 t323 t324 t325 t326 t327 t328 t329 t330 _ ?side1 ?side2 A14.out).mono ?_
         (case side1 => repeat (first | exact (Kd.R_reads' HO316.out).2.2 | (with_reducible refine Kd.C_alloc ?_ _) | (with_reducible refine Kd.C_drewN ?_ _) | (with_reducible refine Kd.C_drew ?_)))
         (case side2 => exact (Kd.R_reads' HO316.out).2.1)
         rintro e w35 ⟨rfl, hb⟩
         refine ⟨_, rfl, ?_⟩
         replace BK305 := zb BK305 hb
         replace BK306 := zb BK306 hb
         replace BK307 := zb BK307 hb
         replace HB := zB HB hb
         replace HO316 := Aside0.mk (Kd.R_below (zr HO316) hb)
         (try clear hb)
         refine hK.out _ _ ⟨zc BK305 0, zc BK305 1, zc BK305 2, zc BK305 3, zc BK305 4, zc BK306 0, zc BK306 1, zc BK306 2, zc BK306 3, zc BK306 4, zc BK306 5, zc BK307 0, zc BK307 1⟩ (fun hHeld => ?_)
         clear hK K
         refine zn 26 ?_
         exact norm_ (by first | (simp only [putAll, Act.put, List.setIfInBounds_toArray, List.set_cons_zero, List.set_cons_succ]; done) | (simp only [putAll, Act.put, List.setIfInBounds_toArray, List.set_cons_zero, List.set_cons_succ]; rfl)) (hJ1_3_5_7_8 (.slice Ao34 t314.length co34) _ ⟨hHeld, (zr HO316), (zy BK305), (zy BK306), (zy BK307), (by repeat (first | (with_reducible first | exact HB.out | apply below_alloc | apply pw_below_drewN | apply below_drew1 | refine below_set ?_ GE305.out | refine below_set ?_ GE306.out | refine below_set ?_ GE307.out) | exact HB.out))⟩)
        ·skip
         refine box_step ?hg (N := 10) ?hd (cs := #[.bool false, .int .i64 0, .int .i64 0, .int .i64 0, .int .i64 0, .int .i64 0]) (t := 29) ?hr ?_; (case hd => rfl); (case hg => rfl); (case hr => first | (go_simp; done) | (go_simp; rfl))
         intro gb331 hg w34 hbox hb
         have BK331 := Aside0.mk (hbox)
         have GW331 := zge HB hg
         have GE331 := GW331
         have NB305_331 := zl BK305 hg
         have NB331_305 := zg BK305 hg
         have NB306_331 := zl BK306 hg
         have NB331_306 := zg BK306 hg
         have NB307_331 := zl BK307 hg
         have NB331_307 := zg BK307 hg
         replace BK305 := zb BK305 hb
         replace BK306 := zb BK306 hb
         replace BK307 := zb BK307 hb
         replace HB := zB HB hb
         replace HO316 := Aside0.mk (Kd.R_below (zr HO316) hb)
         clear hb hbox hg
         refine hK.out _ _ ⟨zc BK305 0, zc BK305 1, zc BK305 2, zc BK305 3, zc BK305 4, zc BK306 0, zc BK306 1, zc BK306 2, zc BK306 3, zc BK306 4, zc BK306 5, zc BK307 0, zc BK307 1⟩ (fun hHeld => ?_)
         clear hK K
         refine zn 10 ?_
         exact norm_ (by first | (simp only [putAll, Act.put, List.setIfInBounds_toArray, List.set_cons_zero, List.set_cons_succ]; done) | (simp only [putAll, Act.put, List.setIfInBounds_toArray, List.set_cons_zero, List.set_cons_succ]; rfl)) (hJ1_3_5_7_9 (.slice Ao34 t314.length co34, gb331) _ ⟨hHeld, (zr HO316), (zy BK305), (zy BK306), (zy BK307), (zy BK331), GW331.out, GE331.out, NB305_331.out, NB331_305.out, NB306_331.out, NB331_306.out, NB307_331.out, NB331_307.out, (by repeat (first | (with_reducible first | exact HB.out | apply below_alloc | apply pw_below_drewN | apply below_drew1 | refine below_set ?_ GE305.out | refine below_set ?_ GE306.out | refine below_set ?_ GE307.out | refine below_set ?_ GE331.out) | exact HB.out))⟩)
      ·skip
       rintro ⟨v315, gb331⟩ w34 ⟨hS_, h0_, h1_, h2_, h3_, h4_, h5_, h6_, h7_, h8_, h9_, h10_, h11_, h12_, h13_⟩
       have n0_ : Aside0 (Kd.R k37 37 w34 w.heap.size (fun _ => True) v315 t314) := ⟨h0_⟩
       have n1_ : Aside0 (w34.heap[gb305]? = some (.cells #[.int .i64 a0_0, .int .i64 a0_1, .int .i64 a0_2, .int .i64 a0_3, .int .i64 a0_4] 39 (0, 0))) := ⟨h1_⟩
       have n2_ : Aside0 (w34.heap[gb306]? = some (.cells #[.bool a2_0, .int .i64 a2_1, .int .i64 a2_2, .int .i64 a2_3, .int .i64 a2_4, .int .i64 a2_5] 43 (0, 0))) := ⟨h2_⟩
       have n3_ : Aside0 (w34.heap[gb307]? = some (.cells #[.int .i64 a3_0, .int .i64 a3_1] 44 (0, 0))) := ⟨h3_⟩
       have n4_ : Aside0 (w34.heap[gb331]? = some (.cells #[.bool false, .int .i64 0, .int .i64 0, .int .i64 0, .int .i64 0, .int .i64 0] 29 (0, 0))) := ⟨h4_⟩
       have n5_ : Aside0 (w.heap.size ≤ gb331) := ⟨h5_⟩
       have n6_ : Aside0 (w.heap.size ≤ gb331) := ⟨h6_⟩
       have n7_ : Aside0 (gb305 ≠ gb331) := ⟨h7_⟩
       have n8_ : Aside0 (gb331 ≠ gb305) := ⟨h8_⟩
       have n9_ : Aside0 (gb306 ≠ gb331) := ⟨h9_⟩
       have n10_ : Aside0 (gb331 ≠ gb306) := ⟨h10_⟩
       have n11_ : Aside0 (gb307 ≠ gb331) := ⟨h11_⟩
       have n12_ : Aside0 (gb331 ≠ gb307) := ⟨h12_⟩
       have n13_ : Aside0 (Below w.heap.size w w34) := ⟨h13_⟩
       clear BK305 BK306 BK307 HB h0_ h1_ h2_ h3_ h4_ h5_ h6_ h7_ h8_ h9_ h10_ h11_ h12_ h13_
       have HO316 := n0_
       have BK305 := n1_
       have BK306 := n2_
       have BK307 := n3_
       have BK331 := n4_
       have GW331 := n5_
       have GE331 := n6_
       have NB305_331 := n7_
       have NB331_305 := n8_
       have NB306_331 := n9_
       have NB331_306 := n10_
       have NB307_331 := n11_
       have NB331_307 := n12_
       have HB := n13_
       clear n0_ n1_ n2_ n3_ n4_ n5_ n6_ n7_ n8_ n9_ n10_ n11_ n12_ n13_
       have hHeld : w34.cell? ⟨gb305, 0, none⟩ = some (.int .i64 a0_0) ∧ w34.cell? ⟨gb305, 1, none⟩ = some (.int .i64 a0_1) ∧ w34.cell? ⟨gb305, 2, none⟩ = some (.int .i64 a0_2) ∧ w34.cell? ⟨gb305, 3, none⟩ = some (.int .i64 a0_3) ∧ w34.cell? ⟨gb305, 4, none⟩ = some (.int .i64 a0_4) ∧ w34.cell? ⟨gb306, 0, none⟩ = some (.bool a2_0) ∧ w34.cell? ⟨gb306, 1, none⟩ = some (.int .i64 a2_1) ∧ w34.cell? ⟨gb306, 2, none⟩ = some (.int .i64 a2_2) ∧ w34.cell? ⟨gb306, 3, none⟩ = some (.int .i64 a2_3) ∧ w34.cell? ⟨gb306, 4, none⟩ = some (.int .i64 a2_4) ∧ w34.cell? ⟨gb306, 5, none⟩ = some (.int .i64 a2_5) ∧ w34.cell? ⟨gb307, 0, none⟩ = some (.int .i64 a3_0) ∧ w34.cell? ⟨gb307, 1, none⟩ = some (.int .i64 a3_1) := hS_
       obtain ⟨Ao35, co35, eo35⟩ := Kd.R_slice HO316.out
       (first | subst eo35 | (injection eo35 with f1_ f2_ f3_; have f4_ := f1_.symm; have f5_ := f3_.symm; clear f1_ f2_ f3_; subst f4_; subst f5_))
       refine norm_ (a' := ?_) ?_ ?_
       rotate_left
       ·simp only [putAll, Act.put, List.setIfInBounds_toArray, List.set_cons_zero, List.set_cons_succ]
        rfl
       refine zo 8 (some 26) (zm 11 1023) HT_ (fun K hK => ?_)
       refine zG Try.func17 #[.agg #[.int .i64 t309, .int .i64 t310, .int .i64 t311, .int .i64 t312, .int .i64 t313], .slice Ao35 t314.length co35, .agg #[.bool t317, .int .i64 t318, .int .i64 t319, .int .i64 t320, .int .i64 t321, .int .i64 t322], .agg #[.int .i64 t323, .int .i64 t324]] ?_
       with_reducible refine (spec_Do.calls k t309 t310 t311 t312 t313 _ _ t314 t317 t318 t319 t320 t321 t322 t323 t324 t325 t326 t327 t328 t329 t330 _ ?side1 ?side2 A14.out).mono ?_
       (case side1 => repeat (first | exact (Kd.R_reads' HO316.out).2.2 | (with_reducible refine Kd.C_alloc ?_ _) | (with_reducible refine Kd.C_drewN ?_ _) | (with_reducible refine Kd.C_drew ?_)))
       (case side2 => exact (Kd.R_reads' HO316.out).2.1)
       rintro e w36 ⟨rfl, hb⟩
       refine ⟨_, rfl, ?_⟩
       replace BK305 := zb BK305 hb
       replace BK306 := zb BK306 hb
       replace BK307 := zb BK307 hb
       replace BK331 := zb BK331 hb
       replace HB := zB HB hb
       replace HO316 := Aside0.mk (Kd.R_below (zr HO316) hb)
       (try clear hb)
       refine hK.out _ _ ⟨zc BK305 0, zc BK305 1, zc BK305 2, zc BK305 3, zc BK305 4, zc BK306 0, zc BK306 1, zc BK306 2, zc BK306 3, zc BK306 4, zc BK306 5, zc BK307 0, zc BK307 1⟩ (fun hHeld => ?_)
       clear hK K
       refine zn 26 ?_
       exact norm_ (by first | (simp only [putAll, Act.put, List.setIfInBounds_toArray, List.set_cons_zero, List.set_cons_succ]; done) | (simp only [putAll, Act.put, List.setIfInBounds_toArray, List.set_cons_zero, List.set_cons_succ]; rfl)) (hJ1_3_5_7_8_9 (.slice Ao35 t314.length co35, gb331) _ ⟨hHeld, (zr HO316), (zy BK305), (zy BK306), (zy BK307), (zy BK331), GW331.out, GE331.out, NB305_331.out, NB331_305.out, NB306_331.out, NB331_306.out, NB307_331.out, NB331_307.out, (by repeat (first | (with_reducible first | exact HB.out | apply below_alloc | apply pw_below_drewN | apply below_drew1 | refine below_set ?_ GE305.out | refine below_set ?_ GE306.out | refine below_set ?_ GE307.out | refine below_set ?_ GE331.out) | exact HB.out))⟩)
     ·skip
      rintro v315 w35 ⟨hS_, h0_, h1_, h2_, h3_, h4_⟩
      have n0_ : Aside0 (Kd.R k37 37 w35 w.heap.size (fun _ => True) v315 t314) := ⟨h0_⟩
      have n1_ : Aside0 (w35.heap[gb305]? = some (.cells #[.int .i64 a0_0, .int .i64 a0_1, .int .i64 a0_2, .int .i64 a0_3, .int .i64 a0_4] 39 (0, 0))) := ⟨h1_⟩
      have n2_ : Aside0 (w35.heap[gb306]? = some (.cells #[.bool a2_0, .int .i64 a2_1, .int .i64 a2_2, .int .i64 a2_3, .int .i64 a2_4, .int .i64 a2_5] 43 (0, 0))) := ⟨h2_⟩
      have n3_ : Aside0 (w35.heap[gb307]? = some (.cells #[.int .i64 a3_0, .int .i64 a3_1] 44 (0, 0))) := ⟨h3_⟩
      have n4_ : Aside0 (Below w.heap.size w w35) := ⟨h4_⟩
      clear BK305 BK306 BK307 HB h0_ h1_ h2_ h3_ h4_
      have HO316 := n0_
      have BK305 := n1_
      have BK306 := n2_
      have BK307 := n3_
      have HB := n4_
      clear n0_ n1_ n2_ n3_ n4_
      have hHeld : w35.cell? ⟨gb305, 0, none⟩ = some (.int .i64 a0_0) ∧ w35.cell? ⟨gb305, 1, none⟩ = some (.int .i64 a0_1) ∧ w35.cell? ⟨gb305, 2, none⟩ = some (.int .i64 a0_2) ∧ w35.cell? ⟨gb305, 3, none⟩ = some (.int .i64 a0_3) ∧ w35.cell? ⟨gb305, 4, none⟩ = some (.int .i64 a0_4) ∧ w35.cell? ⟨gb306, 0, none⟩ = some (.bool a2_0) ∧ w35.cell? ⟨gb306, 1, none⟩ = some (.int .i64 a2_1) ∧ w35.cell? ⟨gb306, 2, none⟩ = some (.int .i64 a2_2) ∧ w35.cell? ⟨gb306, 3, none⟩ = some (.int .i64 a2_3) ∧ w35.cell? ⟨gb306, 4, none⟩ = some (.int .i64 a2_4) ∧ w35.cell? ⟨gb306, 5, none⟩ = some (.int .i64 a2_5) ∧ w35.cell? ⟨gb307, 0, none⟩ = some (.int .i64 a3_0) ∧ w35.cell? ⟨gb307, 1, none⟩ = some (.int .i64 a3_1) := hS_
      refine norm_ (a' := ?_) ?_ ?_
      rotate_left
      ·simp only [putAll, Act.put, List.setIfInBounds_toArray, List.set_cons_zero, List.set_cons_succ]
       rfl
      refine zo 9 (some 10) (zm 11 1023) HT_ (fun K hK => ?_)
      refine box_step ?hg (N := 10) ?hd (cs := #[.bool false, .int .i64 0, .int .i64 0, .int .i64 0, .int .i64 0, .int .i64 0]) (t := 29) ?hr ?_; (case hd => rfl); (case hg => rfl); (case hr => first | (go_simp; done) | (go_simp; rfl))
      intro gb331 hg w36 hbox hb
      have BK331 := Aside0.mk (hbox)
      have GW331 := zge HB hg
      have GE331 := GW331
      have NB305_331 := zl BK305 hg
      have NB331_305 := zg BK305 hg
      have NB306_331 := zl BK306 hg
      have NB331_306 := zg BK306 hg
      have NB307_331 := zl BK307 hg
      have NB331_307 := zg BK307 hg
      replace BK305 := zb BK305 hb
      replace BK306 := zb BK306 hb
      replace BK307 := zb BK307 hb
      replace HB := zB HB hb
      replace HO316 := Aside0.mk (Kd.R_below (zr HO316) hb)
      clear hb hbox hg
      refine hK.out _ _ ⟨zc BK305 0, zc BK305 1, zc BK305 2, zc BK305 3, zc BK305 4, zc BK306 0, zc BK306 1, zc BK306 2, zc BK306 3, zc BK306 4, zc BK306 5, zc BK307 0, zc BK307 1⟩ (fun hHeld => ?_)
      clear hK K
      refine zn 10 ?_
      exact norm_ (by first | (simp only [putAll, Act.put, List.setIfInBounds_toArray, List.set_cons_zero, List.set_cons_succ]; done) | (simp only [putAll, Act.put, List.setIfInBounds_toArray, List.set_cons_zero, List.set_cons_succ]; rfl)) (hJ1_3_5_7_8_9 (v315, gb331) _ ⟨hHeld, (zr HO316), (zy BK305), (zy BK306), (zy BK307), (zy BK331), GW331.out, GE331.out, NB305_331.out, NB331_305.out, NB306_331.out, NB331_306.out, NB307_331.out, NB331_307.out, (by repeat (first | (with_reducible first | exact HB.out | apply below_alloc | apply pw_below_drewN | apply below_drew1 | refine below_set ?_ GE305.out | refine below_set ?_ GE306.out | refine below_set ?_ GE307.out | refine below_set ?_ GE331.out) | exact HB.out))⟩)
    rintro ⟨v315, gb331⟩ w36 ⟨hS_, h0_, h1_, h2_, h3_, h4_, h5_, h6_, h7_, h8_, h9_, h10_, h11_, h12_, h13_⟩
    have n0_ : Aside0 (Kd.R k37 37 w36 w.heap.size (fun _ => True) v315 t314) := ⟨h0_⟩
    have n1_ : Aside0 (w36.heap[gb305]? = some (.cells #[.int .i64 a0_0, .int .i64 a0_1, .int .i64 a0_2, .int .i64 a0_3, .int .i64 a0_4] 39 (0, 0))) := ⟨h1_⟩
    have n2_ : Aside0 (w36.heap[gb306]? = some (.cells #[.bool a2_0, .int .i64 a2_1, .int .i64 a2_2, .int .i64 a2_3, .int .i64 a2_4, .int .i64 a2_5] 43 (0, 0))) := ⟨h2_⟩
    have n3_ : Aside0 (w36.heap[gb307]? = some (.cells #[.int .i64 a3_0, .int .i64 a3_1] 44 (0, 0))) := ⟨h3_⟩
    have n4_ : Aside0 (w36.heap[gb331]? = some (.cells #[.bool false, .int .i64 0, .int .i64 0, .int .i64 0, .int .i64 0, .int .i64 0] 29 (0, 0))) := ⟨h4_⟩
    have n5_ : Aside0 (w.heap.size ≤ gb331) := ⟨h5_⟩
    have n6_ : Aside0 (w.heap.size ≤ gb331) := ⟨h6_⟩
    have n7_ : Aside0 (gb305 ≠ gb331) := ⟨h7_⟩
    have n8_ : Aside0 (gb331 ≠ gb305) := ⟨h8_⟩
    have n9_ : Aside0 (gb306 ≠ gb331) := ⟨h9_⟩
    have n10_ : Aside0 (gb331 ≠ gb306) := ⟨h10_⟩
    have n11_ : Aside0 (gb307 ≠ gb331) := ⟨h11_⟩
    have n12_ : Aside0 (gb331 ≠ gb307) := ⟨h12_⟩
    have n13_ : Aside0 (Below w.heap.size w w36) := ⟨h13_⟩
    clear BK305 BK306 BK307 HB h0_ h1_ h2_ h3_ h4_ h5_ h6_ h7_ h8_ h9_ h10_ h11_ h12_ h13_
    have HO316 := n0_
    have BK305 := n1_
    have BK306 := n2_
    have BK307 := n3_
    have BK331 := n4_
    have GW331 := n5_
    have GE331 := n6_
    have NB305_331 := n7_
    have NB331_305 := n8_
    have NB306_331 := n9_
    have NB331_306 := n10_
    have NB307_331 := n11_
    have NB331_307 := n12_
    have HB := n13_
    clear n0_ n1_ n2_ n3_ n4_ n5_ n6_ n7_ n8_ n9_ n10_ n11_ n12_ n13_
    have hHeld : w36.cell? ⟨gb305, 0, none⟩ = some (.int .i64 a0_0) ∧ w36.cell? ⟨gb305, 1, none⟩ = some (.int .i64 a0_1) ∧ w36.cell? ⟨gb305, 2, none⟩ = some (.int .i64 a0_2) ∧ w36.cell? ⟨gb305, 3, none⟩ = some (.int .i64 a0_3) ∧ w36.cell? ⟨gb305, 4, none⟩ = some (.int .i64 a0_4) ∧ w36.cell? ⟨gb306, 0, none⟩ = some (.bool a2_0) ∧ w36.cell? ⟨gb306, 1, none⟩ = some (.int .i64 a2_1) ∧ w36.cell? ⟨gb306, 2, none⟩ = some (.int .i64 a2_2) ∧ w36.cell? ⟨gb306, 3, none⟩ = some (.int .i64 a2_3) ∧ w36.cell? ⟨gb306, 4, none⟩ = some (.int .i64 a2_4) ∧ w36.cell? ⟨gb306, 5, none⟩ = some (.int .i64 a2_5) ∧ w36.cell? ⟨gb307, 0, none⟩ = some (.int .i64 a3_0) ∧ w36.cell? ⟨gb307, 1, none⟩ = some (.int .i64 a3_1) := hS_
    refine norm_ (a' := ?_) ?_ ?_
    rotate_left
    ·simp only [putAll, Act.put, List.setIfInBounds_toArray, List.set_cons_zero, List.set_cons_succ]
     rfl
    refine zo 10 (none) (zm 11 2047) HT_ (fun K hK => ?_)
    have hs37 : w36.cell? ⟨gb331, 0, none⟩ = some (.bool false) := zc BK331 0
    have hfs37 := blk_frozen BK331.out 0
    have hns37_0 := NB305_331.out
    have hns37_1 := NB306_331.out
    have hns37_2 := NB307_331.out
    have hms37_0 := NB331_305.out
    have hms37_1 := NB331_306.out
    have hms37_2 := NB331_307.out
    have hs38 : w36.cell? ⟨gb331, 1, none⟩ = some (.int .i64 0) := zc BK331 1
    have hfs38 := blk_frozen BK331.out 1
    have hns38_0 := NB305_331.out
    have hns38_1 := NB306_331.out
    have hns38_2 := NB307_331.out
    have hms38_0 := NB331_305.out
    have hms38_1 := NB331_306.out
    have hms38_2 := NB331_307.out
    have hs39 : w36.cell? ⟨gb331, 2, none⟩ = some (.int .i64 0) := zc BK331 2
    have hfs39 := blk_frozen BK331.out 2
    have hns39_0 := NB305_331.out
    have hns39_1 := NB306_331.out
    have hns39_2 := NB307_331.out
    have hms39_0 := NB331_305.out
    have hms39_1 := NB331_306.out
    have hms39_2 := NB331_307.out
    have hs40 : w36.cell? ⟨gb331, 3, none⟩ = some (.int .i64 0) := zc BK331 3
    have hfs40 := blk_frozen BK331.out 3
    have hns40_0 := NB305_331.out
    have hns40_1 := NB306_331.out
    have hns40_2 := NB307_331.out
    have hms40_0 := NB331_305.out
    have hms40_1 := NB331_306.out
    have hms40_2 := NB331_307.out
    have hs41 : w36.cell? ⟨gb331, 4, none⟩ = some (.int .i64 0) := zc BK331 4
    have hfs41 := blk_frozen BK331.out 4
    have hns41_0 := NB305_331.out
    have hns41_1 := NB306_331.out
    have hns41_2 := NB307_331.out
    have hms41_0 := NB331_305.out
    have hms41_1 := NB331_306.out
    have hms41_2 := NB331_307.out
    have hs42 : w36.cell? ⟨gb331, 5, none⟩ = some (.int .i64 0) := zc BK331 5
    have hfs42 := blk_frozen BK331.out 5
    have hns42_0 := NB305_331.out
    have hns42_1 := NB306_331.out
    have hns42_2 := NB307_331.out
    have hms42_0 := NB331_305.out
    have hms42_1 := NB331_306.out
    have hms42_2 := NB331_307.out
    refine skip_ (w1 := ?_) (by rfl) rfl ?_ ?_
    rotate_left
    ·go_simp
     rfl
    refine hK.out _ _ ⟨((cell_far (p := ⟨gb331, _, none⟩) NB305_331.out _).trans (((cell_far (p := ⟨gb331, _, none⟩) NB305_331.out _).trans (((cell_far (p := ⟨gb331, _, none⟩) NB305_331.out _).trans (((cell_far (p := ⟨gb331, _, none⟩) NB305_331.out _).trans (((cell_far (p := ⟨gb331, _, none⟩) NB305_331.out _).trans (((cell_far (p := ⟨gb331, _, none⟩) NB305_331.out _).trans (hHeld.1)))))))))))), ((cell_far (p := ⟨gb331, _, none⟩) NB305_331.out _).trans (((cell_far (p := ⟨gb331, _, none⟩) NB305_331.out _).trans (((cell_far (p := ⟨gb331, _, none⟩) NB305_331.out _).trans (((cell_far (p := ⟨gb331, _, none⟩) NB305_331.out _).trans (((cell_far (p := ⟨gb331, _, none⟩) NB305_331.out _).trans (((cell_far (p := ⟨gb331, _, none⟩) NB305_331.out _).trans (hHeld.2.1)))))))))))), ((cell_far (p := ⟨gb331, _, none⟩) NB305_331.out _).trans (((cell_far (p := ⟨gb331, _, none⟩) NB305_331.out _).trans (((cell_far (p := ⟨gb331, _, none⟩) NB305_331.out _).trans (((cell_far (p := ⟨gb331, _, none⟩) NB305_331.out _).trans (((cell_far (p := ⟨gb331, _, none⟩) NB305_331.out _).trans (((cell_far (p := ⟨gb331, _, none⟩) NB305_331.out _).trans (hHeld.2.2.1)))))))))))), ((cell_far (p := ⟨gb331, _, none⟩) NB305_331.out _).trans (((cell_far (p := ⟨gb331, _, none⟩) NB305_331.out _).trans (((cell_far (p := ⟨gb331, _, none⟩) NB305_331.out _).trans (((cell_far (p := ⟨gb331, _, none⟩) NB305_331.out _).trans (((cell_far (p := ⟨gb331, _, none⟩) NB305_331.out _).trans (((cell_far (p := ⟨gb331, _, none⟩) NB305_331.out _).trans (hHeld.2.2.2.1)))))))))))), ((cell_far (p := ⟨gb331, _, none⟩) NB305_331.out _).trans (((cell_far (p := ⟨gb331, _, none⟩) NB305_331.out _).trans (((cell_far (p := ⟨gb331, _, none⟩) NB305_331.out _).trans (((cell_far (p := ⟨gb331, _, none⟩) NB305_331.out _).trans (((cell_far (p := ⟨gb331, _, none⟩) NB305_331.out _).trans (((cell_far (p := ⟨gb331, _, none⟩) NB305_331.out _).trans (hHeld.2.2.2.2.1)))))))))))), ((cell_far (p := ⟨gb331, _, none⟩) NB306_331.out _).trans (((cell_far (p := ⟨gb331, _, none⟩) NB306_331.out _).trans (((cell_far (p := ⟨gb331, _, none⟩) NB306_331.out _).trans (((cell_far (p := ⟨gb331, _, none⟩) NB306_331.out _).trans (((cell_far (p := ⟨gb331, _, none⟩) NB306_331.out _).trans (((cell_far (p := ⟨gb331, _, none⟩) NB306_331.out _).trans (hHeld.2.2.2.2.2.1)))))))))))), ((cell_far (p := ⟨gb331, _, none⟩) NB306_331.out _).trans (((cell_far (p := ⟨gb331, _, none⟩) NB306_331.out _).trans (((cell_far (p := ⟨gb331, _, none⟩) NB306_331.out _).trans (((cell_far (p := ⟨gb331, _, none⟩) NB306_331.out _).trans (((cell_far (p := ⟨gb331, _, none⟩) NB306_331.out _).trans (((cell_far (p := ⟨gb331, _, none⟩) NB306_331.out _).trans (hHeld.2.2.2.2.2.2.1)))))))))))), ((cell_far (p := ⟨gb331, _, none⟩) NB306_331.out _).trans (((cell_far (p := ⟨gb331, _, none⟩) NB306_331.out _).trans (((cell_far (p := ⟨gb331, _, none⟩) NB306_331.out _).trans (((cell_far (p := ⟨gb331, _, none⟩) NB306_331.out _).trans (((cell_far (p := ⟨gb331, _, none⟩) NB306_331.out _).trans (((cell_far (p := ⟨gb331, _, none⟩) NB306_331.out _).trans (hHeld.2.2.2.2.2.2.2.1)))))))))))), ((cell_far (p := ⟨gb331, _, none⟩) NB306_331.out _).trans (((cell_far (p := ⟨gb331, _, none⟩) NB306_331.out _).trans (((cell_far (p := ⟨gb331, _, none⟩) NB306_331.out _).trans (((cell_far (p := ⟨gb331, _, none⟩) NB306_331.out _).trans (((cell_far (p := ⟨gb331, _, none⟩) NB306_331.out _).trans (((cell_far (p := ⟨gb331, _, none⟩) NB306_331.out _).trans (hHeld.2.2.2.2.2.2.2.2.1)))))))))))), ((cell_far (p := ⟨gb331, _, none⟩) NB306_331.out _).trans (((cell_far (p := ⟨gb331, _, none⟩) NB306_331.out _).trans (((cell_far (p := ⟨gb331, _, none⟩) NB306_331.out _).trans (((cell_far (p := ⟨gb331, _, none⟩) NB306_331.out _).trans (((cell_far (p := ⟨gb331, _, none⟩) NB306_331.out _).trans (((cell_far (p := ⟨gb331, _, none⟩) NB306_331.out _).trans (hHeld.2.2.2.2.2.2.2.2.2.1)))))))))))), ((cell_far (p := ⟨gb331, _, none⟩) NB306_331.out _).trans (((cell_far (p := ⟨gb331, _, none⟩) NB306_331.out _).trans (((cell_far (p := ⟨gb331, _, none⟩) NB306_331.out _).trans (((cell_far (p := ⟨gb331, _, none⟩) NB306_331.out _).trans (((cell_far (p := ⟨gb331, _, none⟩) NB306_331.out _).trans (((cell_far (p := ⟨gb331, _, none⟩) NB306_331.out _).trans (hHeld.2.2.2.2.2.2.2.2.2.2.1)))))))))))), ((cell_far (p := ⟨gb331, _, none⟩) NB307_331.out _).trans (((cell_far (p := ⟨gb331, _, none⟩) NB307_331.out _).trans (((cell_far (p := ⟨gb331, _, none⟩) NB307_331.out _).trans (((cell_far (p := ⟨gb331, _, none⟩) NB307_331.out _).trans (((cell_far (p := ⟨gb331, _, none⟩) NB307_331.out _).trans (((cell_far (p := ⟨gb331, _, none⟩) NB307_331.out _).trans (hHeld.2.2.2.2.2.2.2.2.2.2.2.1)))))))))))), ((cell_far (p := ⟨gb331, _, none⟩) NB307_331.out _).trans (((cell_far (p := ⟨gb331, _, none⟩) NB307_331.out _).trans (((cell_far (p := ⟨gb331, _, none⟩) NB307_331.out _).trans (((cell_far (p := ⟨gb331, _, none⟩) NB307_331.out _).trans (((cell_far (p := ⟨gb331, _, none⟩) NB307_331.out _).trans (((cell_far (p := ⟨gb331, _, none⟩) NB307_331.out _).trans (hHeld.2.2.2.2.2.2.2.2.2.2.2.2))))))))))))⟩ (fun hHeld => ?_)
    clear hK K
    refine done_ (done_of HT_.out (by kernel_rfl)) ?_
    try go_wp2_with (first | ((with_reducible refine gate_callee (f := 20) rfl ?_); refine zL (some 28) Try.func20 #[.slice A1 l1.length c1] ?_; (with_reducible refine (laws_toMarkS.calls k _ _ l1 t332 _ ?side1 ?side2 A15.out).mono ?_); (case side1 => exact Kd.C_below HR1.out (by repeat (first | (with_reducible first | exact HB.out | apply below_alloc | apply pw_below_drewN | apply below_drew1 | refine below_set ?_ GE305.out | refine below_set ?_ GE306.out | refine below_set ?_ GE307.out | refine below_set ?_ GE331.out) | exact HB.out))); (case side2 => exact HC1.out); rintro e w43 ⟨v333, rfl, ho0, hb⟩; refine ⟨_, rfl, ?_⟩; have n0_ := Aside0.mk (Kd.R_elder' (by (with_reducible repeat (first | apply Kd.R_alloc | apply Kd.R_drewN | apply Kd.R_drew)); exact (Kd.R_mono (Kd.R_far (p := ⟨gb331, 5, none⟩) (Kd.R_far (p := ⟨gb331, 4, none⟩) (Kd.R_far (p := ⟨gb331, 3, none⟩) (Kd.R_far (p := ⟨gb331, 2, none⟩) (Kd.R_far (p := ⟨gb331, 1, none⟩) (Kd.R_far (p := ⟨gb331, 0, none⟩) (Kd.R_types HO316.out BK331.out (by decide)) (fun _ hk => hk.2) (.bool t325)) (fun _ hk => hk.2) (.int .i64 t326)) (fun _ hk => hk.2) (.int .i64 t327)) (fun _ hk => hk.2) (.int .i64 t328)) (fun _ hk => hk.2) (.int .i64 t329)) (fun _ hk => hk.2) (.int .i64 t330)) (fun _ h_ => h_.1))) (Kd.R_base ho0) hb); have n1_ := Aside0.mk (blk_below (g := gb305) (o := .cells #[.int .i64 a0_0, .int .i64 a0_1, .int .i64 a0_2, .int .i64 a0_3, .int .i64 a0_4] 39 (0, 0)) (by (with_reducible repeat (first | refine blk_drewN ?_ _ | refine blk_drew ?_ | refine blk_alloc ?_ _)); refine blk_far ?_ NB305_331.out _; (with_reducible repeat (first | refine blk_drewN ?_ _ | refine blk_drew ?_ | refine blk_alloc ?_ _)); refine blk_far ?_ NB305_331.out _; (with_reducible repeat (first | refine blk_drewN ?_ _ | refine blk_drew ?_ | refine blk_alloc ?_ _)); refine blk_far ?_ NB305_331.out _; (with_reducible repeat (first | refine blk_drewN ?_ _ | refine blk_drew ?_ | refine blk_alloc ?_ _)); refine blk_far ?_ NB305_331.out _; (with_reducible repeat (first | refine blk_drewN ?_ _ | refine blk_drew ?_ | refine blk_alloc ?_ _)); refine blk_far ?_ NB305_331.out _; (with_reducible repeat (first | refine blk_drewN ?_ _ | refine blk_drew ?_ | refine blk_alloc ?_ _)); refine blk_far ?_ NB305_331.out _; (with_reducible repeat (first | refine blk_drewN ?_ _ | refine blk_drew ?_ | refine blk_alloc ?_ _)); exact BK305.out) hb); have n2_ := Aside0.mk (blk_below (g := gb306) (o := .cells #[.bool a2_0, .int .i64 a2_1, .int .i64 a2_2, .int .i64 a2_3, .int .i64 a2_4, .int .i64 a2_5] 43 (0, 0)) (by (with_reducible repeat (first | refine blk_drewN ?_ _ | refine blk_drew ?_ | refine blk_alloc ?_ _)); refine blk_far ?_ NB306_331.out _; (with_reducible repeat (first | refine blk_drewN ?_ _ | refine blk_drew ?_ | refine blk_alloc ?_ _)); refine blk_far ?_ NB306_331.out _; (with_reducible repeat (first | refine blk_drewN ?_ _ | refine blk_drew ?_ | refine blk_alloc ?_ _)); refine blk_far ?_ NB306_331.out _; (with_reducible repeat (first | refine blk_drewN ?_ _ | refine blk_drew ?_ | refine blk_alloc ?_ _)); refine blk_far ?_ NB306_331.out _; (with_reducible repeat (first | refine blk_drewN ?_ _ | refine blk_drew ?_ | refine blk_alloc ?_ _)); refine blk_far ?_ NB306_331.out _; (with_reducible repeat (first | refine blk_drewN ?_ _ | refine blk_drew ?_ | refine blk_alloc ?_ _)); refine blk_far ?_ NB306_331.out _; (with_reducible repeat (first | refine blk_drewN ?_ _ | refine blk_drew ?_ | refine blk_alloc ?_ _)); exact BK306.out) hb); have n3_ := Aside0.mk (blk_below (g := gb307) (o := .cells #[.int .i64 a3_0, .int .i64 a3_1] 44 (0, 0)) (by (with_reducible repeat (first | refine blk_drewN ?_ _ | refine blk_drew ?_ | refine blk_alloc ?_ _)); refine blk_far ?_ NB307_331.out _; (with_reducible repeat (first | refine blk_drewN ?_ _ | refine blk_drew ?_ | refine blk_alloc ?_ _)); refine blk_far ?_ NB307_331.out _; (with_reducible repeat (first | refine blk_drewN ?_ _ | refine blk_drew ?_ | refine blk_alloc ?_ _)); refine blk_far ?_ NB307_331.out _; (with_reducible repeat (first | refine blk_drewN ?_ _ | refine blk_drew ?_ | refine blk_alloc ?_ _)); refine blk_far ?_ NB307_331.out _; (with_reducible repeat (first | refine blk_drewN ?_ _ | refine blk_drew ?_ | refine blk_alloc ?_ _)); refine blk_far ?_ NB307_331.out _; (with_reducible repeat (first | refine blk_drewN ?_ _ | refine blk_drew ?_ | refine blk_alloc ?_ _)); refine blk_far ?_ NB307_331.out _; (with_reducible repeat (first | refine blk_drewN ?_ _ | refine blk_drew ?_ | refine blk_alloc ?_ _)); exact BK307.out) hb); have n4_ := Aside0.mk (blk_below (g := gb331) (o := .cells #[.bool t325, .int .i64 t326, .int .i64 t327, .int .i64 t328, .int .i64 t329, .int .i64 t330] 29 (0, 0)) (by (with_reducible repeat (first | refine blk_drewN ?_ _ | refine blk_drew ?_ | refine blk_alloc ?_ _)); refine blk_put (cs := #[.bool t325, .int .i64 t326, .int .i64 t327, .int .i64 t328, .int .i64 t329, .int .i64 0]) ?_ 5 _ rfl; (with_reducible repeat (first | refine blk_drewN ?_ _ | refine blk_drew ?_ | refine blk_alloc ?_ _)); refine blk_put (cs := #[.bool t325, .int .i64 t326, .int .i64 t327, .int .i64 t328, .int .i64 0, .int .i64 0]) ?_ 4 _ rfl; (with_reducible repeat (first | refine blk_drewN ?_ _ | refine blk_drew ?_ | refine blk_alloc ?_ _)); refine blk_put (cs := #[.bool t325, .int .i64 t326, .int .i64 t327, .int .i64 0, .int .i64 0, .int .i64 0]) ?_ 3 _ rfl; (with_reducible repeat (first | refine blk_drewN ?_ _ | refine blk_drew ?_ | refine blk_alloc ?_ _)); refine blk_put (cs := #[.bool t325, .int .i64 t326, .int .i64 0, .int .i64 0, .int .i64 0, .int .i64 0]) ?_ 2 _ rfl; (with_reducible repeat (first | refine blk_drewN ?_ _ | refine blk_drew ?_ | refine blk_alloc ?_ _)); refine blk_put (cs := #[.bool t325, .int .i64 0, .int .i64 0, .int .i64 0, .int .i64 0, .int .i64 0]) ?_ 1 _ rfl; (with_reducible repeat (first | refine blk_drewN ?_ _ | refine blk_drew ?_ | refine blk_alloc ?_ _)); refine blk_put (cs := #[.bool false, .int .i64 0, .int .i64 0, .int .i64 0, .int .i64 0, .int .i64 0]) ?_ 0 _ rfl; (with_reducible repeat (first | refine blk_drewN ?_ _ | refine blk_drew ?_ | refine blk_alloc ?_ _)); exact BK331.out) hb); have n5_ := Aside0.mk (below_step (by repeat (first | (with_reducible first | exact HB.out | apply below_alloc | apply pw_below_drewN | apply below_drew1 | refine below_set ?_ GE305.out | refine below_set ?_ GE306.out | refine below_set ?_ GE307.out | refine below_set ?_ GE331.out) | exact HB.out)) hb); have HO334 := Aside0.mk (Kd.R_lower (Kd.R_new' ho0 (Kd.R_lt (by (with_reducible repeat (first | apply Kd.R_alloc | apply Kd.R_drewN | apply Kd.R_drew)); exact (Kd.R_mono (Kd.R_far (p := ⟨gb331, 5, none⟩) (Kd.R_far (p := ⟨gb331, 4, none⟩) (Kd.R_far (p := ⟨gb331, 3, none⟩) (Kd.R_far (p := ⟨gb331, 2, none⟩) (Kd.R_far (p := ⟨gb331, 1, none⟩) (Kd.R_far (p := ⟨gb331, 0, none⟩) (Kd.R_types HO316.out BK331.out (by decide)) (fun _ hk => hk.2) (.bool t325)) (fun _ hk => hk.2) (.int .i64 t326)) (fun _ hk => hk.2) (.int .i64 t327)) (fun _ hk => hk.2) (.int .i64 t328)) (fun _ hk => hk.2) (.int .i64 t329)) (fun _ hk => hk.2) (.int .i64 t330)) (fun _ h_ => h_.1))))) (below_size (by repeat (first | (with_reducible first | exact HB.out | apply below_alloc | apply pw_below_drewN | apply below_drew1 | refine below_set ?_ GE305.out | refine below_set ?_ GE306.out | refine below_set ?_ GE307.out | refine below_set ?_ GE331.out) | exact HB.out)))); clear HO316 BK305 BK306 BK307 BK331 HB; have HO316 := n0_; have BK305 := n1_; have BK306 := n2_; have BK307 := n3_; have BK331 := n4_; have HB := n5_; clear n0_ n1_ n2_ n3_ n4_ n5_; (try clear hb); (try clear ho0); obtain ⟨Ao44, co44, eo44⟩ := Kd.R_slice HO334.out; subst eo44))
    have n0_ := Aside0.mk (Kd.R_drew HO316.out)
    have n1_ := Aside0.mk (Kd.R_drew HO334.out)
    have n2_ := Aside0.mk (blk_drew BK305.out)
    have n3_ := Aside0.mk (blk_drew BK306.out)
    have n4_ := Aside0.mk (blk_drew BK307.out)
    have n5_ := Aside0.mk (blk_drew BK331.out)
    have n6_ := Aside0.mk (below_drew1 HB.out)
    clear HO316 HO334 BK305 BK306 BK307 BK331 HB
    have HO316 := n0_
    have HO334 := n1_
    have BK305 := n2_
    have BK306 := n3_
    have BK307 := n4_
    have BK331 := n5_
    have HB := n6_
    clear n0_ n1_ n2_ n3_ n4_ n5_ n6_
    refine start_ (n := 10) (S := fun w' => w'.cell? ⟨gb305, 0, none⟩ = some (.int .i64 a0_0) ∧ w'.cell? ⟨gb305, 1, none⟩ = some (.int .i64 a0_1) ∧ w'.cell? ⟨gb305, 2, none⟩ = some (.int .i64 a0_2) ∧ w'.cell? ⟨gb305, 3, none⟩ = some (.int .i64 a0_3) ∧ w'.cell? ⟨gb305, 4, none⟩ = some (.int .i64 a0_4) ∧ w'.cell? ⟨gb306, 0, none⟩ = some (.bool a2_0) ∧ w'.cell? ⟨gb306, 1, none⟩ = some (.int .i64 a2_1) ∧ w'.cell? ⟨gb306, 2, none⟩ = some (.int .i64 a2_2) ∧ w'.cell? ⟨gb306, 3, none⟩ = some (.int .i64 a2_3) ∧ w'.cell? ⟨gb306, 4, none⟩ = some (.int .i64 a2_4) ∧ w'.cell? ⟨gb306, 5, none⟩ = some (.int .i64 a2_5) ∧ w'.cell? ⟨gb307, 0, none⟩ = some (.int .i64 a3_0) ∧ w'.cell? ⟨gb307, 1, none⟩ = some (.int .i64 a3_1)) (ds := []) #[false, false, false, false, false, false, false, false, false, false] (by kernel_rfl) rfl rfl ⟨zc BK305 0, zc BK305 1, zc BK305 2, zc BK305 3, zc BK305 4, zc BK306 0, zc BK306 1, zc BK306 2, zc BK306 3, zc BK306 4, zc BK306 5, zc BK307 0, zc BK307 1⟩ (fun hHeld => ?_); refine with_tabW laws_FnExactDo.tab7 laws_FnExactDo.bits7 (fun HT_ HW_ => ?_)
    generalize w43.drew = w45 at HO316 HO334 BK305 BK306 BK307 BK331 HB hHeld ⊢
    refine zp 2 31 (zm 10 4) HT_ ?_
    refine zt 0 29 (zm 10 5) HT_ HW_ hHeld ?_
    refine zt 3 32 (zm 10 13) HT_ HW_ hHeld ?_
    refine zt 5 34 (zm 10 45) HT_ HW_ hHeld ?_
    refine join_ (σ := Nat) 1 #[true, true, true, true, true, true, true, true, true, false] (fun s_ => [(30, .agg #[.int .i64 t335, .int .i64 t336, .int .i64 t337, .int .i64 t338, .int .i64 t339]), (33, .agg #[.bool t340, .int .i64 t341, .int .i64 t342, .int .i64 t343, .int .i64 t344, .int .i64 t345]), (35, .agg #[.int .i64 t346, .int .i64 t347]), (36, .agg #[.bool t348, .int .i64 t349, .int .i64 t350, .int .i64 t351, .int .i64 t352, .int .i64 t353]), (12, .pointer (some ⟨s_, 0, none⟩))]) (fun s_ w' => (w'.cell? ⟨gb305, 0, none⟩ = some (.int .i64 a0_0) ∧ w'.cell? ⟨gb305, 1, none⟩ = some (.int .i64 a0_1) ∧ w'.cell? ⟨gb305, 2, none⟩ = some (.int .i64 a0_2) ∧ w'.cell? ⟨gb305, 3, none⟩ = some (.int .i64 a0_3) ∧ w'.cell? ⟨gb305, 4, none⟩ = some (.int .i64 a0_4) ∧ w'.cell? ⟨gb306, 0, none⟩ = some (.bool a2_0) ∧ w'.cell? ⟨gb306, 1, none⟩ = some (.int .i64 a2_1) ∧ w'.cell? ⟨gb306, 2, none⟩ = some (.int .i64 a2_2) ∧ w'.cell? ⟨gb306, 3, none⟩ = some (.int .i64 a2_3) ∧ w'.cell? ⟨gb306, 4, none⟩ = some (.int .i64 a2_4) ∧ w'.cell? ⟨gb306, 5, none⟩ = some (.int .i64 a2_5) ∧ w'.cell? ⟨gb307, 0, none⟩ = some (.int .i64 a3_0) ∧ w'.cell? ⟨gb307, 1, none⟩ = some (.int .i64 a3_1)) ∧ (Kd.R k37 37 w' w.heap.size (fun k_ => some k_ ≠ (.slice Ao44 t332.length co44 : Value).ownBlock) v315 t314) ∧ (Kd.R k37 37 w' w.heap.size (fun k_ => some k_ ≠ (v315 : Value).ownBlock) (.slice Ao44 t332.length co44) t332) ∧ (w'.heap[gb305]? = some (.cells #[.int .i64 a0_0, .int .i64 a0_1, .int .i64 a0_2, .int .i64 a0_3, .int .i64 a0_4] 39 (0, 0))) ∧ (w'.heap[gb306]? = some (.cells #[.bool a2_0, .int .i64 a2_1, .int .i64 a2_2, .int .i64 a2_3, .int .i64 a2_4, .int .i64 a2_5] 43 (0, 0))) ∧ (w'.heap[gb307]? = some (.cells #[.int .i64 a3_0, .int .i64 a3_1] 44 (0, 0))) ∧ (w'.heap[gb331]? = some (.cells #[.bool t325, .int .i64 t326, .int .i64 t327, .int .i64 t328, .int .i64 t329, .int .i64 t330] 29 (0, 0))) ∧ (w'.heap[s_]? = some (.cells #[.bool false, .int .i64 0, .int .i64 0, .int .i64 0, .int .i64 0, .int .i64 0] 29 (0, 0))) ∧ (w.heap.size ≤ s_) ∧ (w.heap.size ≤ s_) ∧ (gb305 ≠ s_) ∧ (s_ ≠ gb305) ∧ (gb306 ≠ s_) ∧ (s_ ≠ gb306) ∧ (gb307 ≠ s_) ∧ (s_ ≠ gb307) ∧ (gb331 ≠ s_) ∧ (s_ ≠ gb331) ∧ (Below w.heap.size w w')) ?_ ?_
    rotate_left
    ·intro hJ1_4_6_7_8
     refine join_ (σ := Unit) 2 #[true, true, true, true, true, true, true, true, false, false] (fun s_ => [(30, .agg #[.int .i64 t335, .int .i64 t336, .int .i64 t337, .int .i64 t338, .int .i64 t339]), (33, .agg #[.bool t340, .int .i64 t341, .int .i64 t342, .int .i64 t343, .int .i64 t344, .int .i64 t345]), (35, .agg #[.int .i64 t346, .int .i64 t347]), (36, .agg #[.bool t348, .int .i64 t349, .int .i64 t350, .int .i64 t351, .int .i64 t352, .int .i64 t353])]) (fun s_ w' => (w'.cell? ⟨gb305, 0, none⟩ = some (.int .i64 a0_0) ∧ w'.cell? ⟨gb305, 1, none⟩ = some (.int .i64 a0_1) ∧ w'.cell? ⟨gb305, 2, none⟩ = some (.int .i64 a0_2) ∧ w'.cell? ⟨gb305, 3, none⟩ = some (.int .i64 a0_3) ∧ w'.cell? ⟨gb305, 4, none⟩ = some (.int .i64 a0_4) ∧ w'.cell? ⟨gb306, 0, none⟩ = some (.bool a2_0) ∧ w'.cell? ⟨gb306, 1, none⟩ = some (.int .i64 a2_1) ∧ w'.cell? ⟨gb306, 2, none⟩ = some (.int .i64 a2_2) ∧ w'.cell? ⟨gb306, 3, none⟩ = some (.int .i64 a2_3) ∧ w'.cell? ⟨gb306, 4, none⟩ = some (.int .i64 a2_4) ∧ w'.cell? ⟨gb306, 5, none⟩ = some (.int .i64 a2_5) ∧ w'.cell? ⟨gb307, 0, none⟩ = some (.int .i64 a3_0) ∧ w'.cell? ⟨gb307, 1, none⟩ = some (.int .i64 a3_1)) ∧ (Kd.R k37 37 w' w.heap.size (fun k_ => some k_ ≠ (.slice Ao44 t332.length co44 : Value).ownBlock) v315 t314) ∧ (Kd.R k37 37 w' w.heap.size (fun k_ => some k_ ≠ (v315 : Value).ownBlock) (.slice Ao44 t332.length co44) t332) ∧ (w'.heap[gb305]? = some (.cells #[.int .i64 a0_0, .int .i64 a0_1, .int .i64 a0_2, .int .i64 a0_3, .int .i64 a0_4] 39 (0, 0))) ∧ (w'.heap[gb306]? = some (.cells #[.bool a2_0, .int .i64 a2_1, .int .i64 a2_2, .int .i64 a2_3, .int .i64 a2_4, .int .i64 a2_5] 43 (0, 0))) ∧ (w'.heap[gb307]? = some (.cells #[.int .i64 a3_0, .int .i64 a3_1] 44 (0, 0))) ∧ (w'.heap[gb331]? = some (.cells #[.bool t325, .int .i64 t326, .int .i64 t327, .int .i64 t328, .int .i64 t329, .int .i64 t330] 29 (0, 0))) ∧ (Below w.heap.size w w')) ?_ ?_
     rotate_left
     ·intro hJ1_4_6_7
      refine join_ (σ := Nat) 2 #[true, true, true, true, true, true, true, false, true, false] (fun s_ => [(30, .agg #[.int .i64 t335, .int .i64 t336, .int .i64 t337, .int .i64 t338, .int .i64 t339]), (33, .agg #[.bool t340, .int .i64 t341, .int .i64 t342, .int .i64 t343, .int .i64 t344, .int .i64 t345]), (35, .agg #[.int .i64 t346, .int .i64 t347]), (12, .pointer (some ⟨s_, 0, none⟩))]) (fun s_ w' => (w'.cell? ⟨gb305, 0, none⟩ = some (.int .i64 a0_0) ∧ w'.cell? ⟨gb305, 1, none⟩ = some (.int .i64 a0_1) ∧ w'.cell? ⟨gb305, 2, none⟩ = some (.int .i64 a0_2) ∧ w'.cell? ⟨gb305, 3, none⟩ = some (.int .i64 a0_3) ∧ w'.cell? ⟨gb305, 4, none⟩ = some (.int .i64 a0_4) ∧ w'.cell? ⟨gb306, 0, none⟩ = some (.bool a2_0) ∧ w'.cell? ⟨gb306, 1, none⟩ = some (.int .i64 a2_1) ∧ w'.cell? ⟨gb306, 2, none⟩ = some (.int .i64 a2_2) ∧ w'.cell? ⟨gb306, 3, none⟩ = some (.int .i64 a2_3) ∧ w'.cell? ⟨gb306, 4, none⟩ = some (.int .i64 a2_4) ∧ w'.cell? ⟨gb306, 5, none⟩ = some (.int .i64 a2_5) ∧ w'.cell? ⟨gb307, 0, none⟩ = some (.int .i64 a3_0) ∧ w'.cell? ⟨gb307, 1, none⟩ = some (.int .i64 a3_1)) ∧ (Kd.R k37 37 w' w.heap.size (fun k_ => some k_ ≠ (.slice Ao44 t332.length co44 : Value).ownBlock) v315 t314) ∧ (Kd.R k37 37 w' w.heap.size (fun k_ => some k_ ≠ (v315 : Value).ownBlock) (.slice Ao44 t332.length co44) t332) ∧ (w'.heap[gb305]? = some (.cells #[.int .i64 a0_0, .int .i64 a0_1, .int .i64 a0_2, .int .i64 a0_3, .int .i64 a0_4] 39 (0, 0))) ∧ (w'.heap[gb306]? = some (.cells #[.bool a2_0, .int .i64 a2_1, .int .i64 a2_2, .int .i64 a2_3, .int .i64 a2_4, .int .i64 a2_5] 43 (0, 0))) ∧ (w'.heap[gb307]? = some (.cells #[.int .i64 a3_0, .int .i64 a3_1] 44 (0, 0))) ∧ (w'.heap[gb331]? = some (.cells #[.bool t325, .int .i64 t326, .int .i64 t327, .int .i64 t328, .int .i64 t329, .int .i64 t330] 29 (0, 0))) ∧ (w'.heap[s_]? = some (.cells #[.bool false, .int .i64 0, .int .i64 0, .int .i64 0, .int .i64 0, .int .i64 0] 29 (0, 0))) ∧ (w.heap.size ≤ s_) ∧ (w.heap.size ≤ s_) ∧ (gb305 ≠ s_) ∧ (s_ ≠ gb305) ∧ (gb306 ≠ s_) ∧ (s_ ≠ gb306) ∧ (gb307 ≠ s_) ∧ (s_ ≠ gb307) ∧ (gb331 ≠ s_) ∧ (s_ ≠ gb331) ∧ (Below w.heap.size w w')) ?_ ?_
      rotate_left
      ·intro hJ1_4_6_8
       refine join_ (σ := Unit) 3 #[true, true, true, true, true, true, true, false, false, false] (fun s_ => [(30, .agg #[.int .i64 t335, .int .i64 t336, .int .i64 t337, .int .i64 t338, .int .i64 t339]), (33, .agg #[.bool t340, .int .i64 t341, .int .i64 t342, .int .i64 t343, .int .i64 t344, .int .i64 t345]), (35, .agg #[.int .i64 t346, .int .i64 t347])]) (fun s_ w' => (w'.cell? ⟨gb305, 0, none⟩ = some (.int .i64 a0_0) ∧ w'.cell? ⟨gb305, 1, none⟩ = some (.int .i64 a0_1) ∧ w'.cell? ⟨gb305, 2, none⟩ = some (.int .i64 a0_2) ∧ w'.cell? ⟨gb305, 3, none⟩ = some (.int .i64 a0_3) ∧ w'.cell? ⟨gb305, 4, none⟩ = some (.int .i64 a0_4) ∧ w'.cell? ⟨gb306, 0, none⟩ = some (.bool a2_0) ∧ w'.cell? ⟨gb306, 1, none⟩ = some (.int .i64 a2_1) ∧ w'.cell? ⟨gb306, 2, none⟩ = some (.int .i64 a2_2) ∧ w'.cell? ⟨gb306, 3, none⟩ = some (.int .i64 a2_3) ∧ w'.cell? ⟨gb306, 4, none⟩ = some (.int .i64 a2_4) ∧ w'.cell? ⟨gb306, 5, none⟩ = some (.int .i64 a2_5) ∧ w'.cell? ⟨gb307, 0, none⟩ = some (.int .i64 a3_0) ∧ w'.cell? ⟨gb307, 1, none⟩ = some (.int .i64 a3_1)) ∧ (Kd.R k37 37 w' w.heap.size (fun k_ => some k_ ≠ (.slice Ao44 t332.length co44 : Value).ownBlock) v315 t314) ∧ (Kd.R k37 37 w' w.heap.size (fun k_ => some k_ ≠ (v315 : Value).ownBlock) (.slice Ao44 t332.length co44) t332) ∧ (w'.heap[gb305]? = some (.cells #[.int .i64 a0_0, .int .i64 a0_1, .int .i64 a0_2, .int .i64 a0_3, .int .i64 a0_4] 39 (0, 0))) ∧ (w'.heap[gb306]? = some (.cells #[.bool a2_0, .int .i64 a2_1, .int .i64 a2_2, .int .i64 a2_3, .int .i64 a2_4, .int .i64 a2_5] 43 (0, 0))) ∧ (w'.heap[gb307]? = some (.cells #[.int .i64 a3_0, .int .i64 a3_1] 44 (0, 0))) ∧ (w'.heap[gb331]? = some (.cells #[.bool t325, .int .i64 t326, .int .i64 t327, .int .i64 t328, .int .i64 t329, .int .i64 t330] 29 (0, 0))) ∧ (Below w.heap.size w w')) ?_ ?_
       rotate_left
       ·intro hJ1_4_6
        refine join_ (σ := Nat) 3 #[true, true, true, true, true, true, false, false, true, false] (fun s_ => [(30, .agg #[.int .i64 t335, .int .i64 t336, .int .i64 t337, .int .i64 t338, .int .i64 t339]), (33, .agg #[.bool t340, .int .i64 t341, .int .i64 t342, .int .i64 t343, .int .i64 t344, .int .i64 t345]), (12, .pointer (some ⟨s_, 0, none⟩))]) (fun s_ w' => (w'.cell? ⟨gb305, 0, none⟩ = some (.int .i64 a0_0) ∧ w'.cell? ⟨gb305, 1, none⟩ = some (.int .i64 a0_1) ∧ w'.cell? ⟨gb305, 2, none⟩ = some (.int .i64 a0_2) ∧ w'.cell? ⟨gb305, 3, none⟩ = some (.int .i64 a0_3) ∧ w'.cell? ⟨gb305, 4, none⟩ = some (.int .i64 a0_4) ∧ w'.cell? ⟨gb306, 0, none⟩ = some (.bool a2_0) ∧ w'.cell? ⟨gb306, 1, none⟩ = some (.int .i64 a2_1) ∧ w'.cell? ⟨gb306, 2, none⟩ = some (.int .i64 a2_2) ∧ w'.cell? ⟨gb306, 3, none⟩ = some (.int .i64 a2_3) ∧ w'.cell? ⟨gb306, 4, none⟩ = some (.int .i64 a2_4) ∧ w'.cell? ⟨gb306, 5, none⟩ = some (.int .i64 a2_5) ∧ w'.cell? ⟨gb307, 0, none⟩ = some (.int .i64 a3_0) ∧ w'.cell? ⟨gb307, 1, none⟩ = some (.int .i64 a3_1)) ∧ (Kd.R k37 37 w' w.heap.size (fun k_ => some k_ ≠ (.slice Ao44 t332.length co44 : Value).ownBlock) v315 t314) ∧ (Kd.R k37 37 w' w.heap.size (fun k_ => some k_ ≠ (v315 : Value).ownBlock) (.slice Ao44 t332.length co44) t332) ∧ (w'.heap[gb305]? = some (.cells #[.int .i64 a0_0, .int .i64 a0_1, .int .i64 a0_2, .int .i64 a0_3, .int .i64 a0_4] 39 (0, 0))) ∧ (w'.heap[gb306]? = some (.cells #[.bool a2_0, .int .i64 a2_1, .int .i64 a2_2, .int .i64 a2_3, .int .i64 a2_4, .int .i64 a2_5] 43 (0, 0))) ∧ (w'.heap[gb307]? = some (.cells #[.int .i64 a3_0, .int .i64 a3_1] 44 (0, 0))) ∧ (w'.heap[gb331]? = some (.cells #[.bool t325, .int .i64 t326, .int .i64 t327, .int .i64 t328, .int .i64 t329, .int .i64 t330] 29 (0, 0))) ∧ (w'.heap[s_]? = some (.cells #[.bool false, .int .i64 0, .int .i64 0, .int .i64 0, .int .i64 0, .int .i64 0] 29 (0, 0))) ∧ (w.heap.size ≤ s_) ∧ (w.heap.size ≤ s_) ∧ (gb305 ≠ s_) ∧ (s_ ≠ gb305) ∧ (gb306 ≠ s_) ∧ (s_ ≠ gb306) ∧ (gb307 ≠ s_) ∧ (s_ ≠ gb307) ∧ (gb331 ≠ s_) ∧ (s_ ≠ gb331) ∧ (Below w.heap.size w w')) ?_ ?_
        rotate_left
        ·intro hJ1_4_8
         refine join_ (σ := Unit) 4 #[true, true, true, true, true, true, false, false, false, false] (fun s_ => [(30, .agg #[.int .i64 t335, .int .i64 t336, .int .i64 t337, .int .i64 t338, .int .i64 t339]), (33, .agg #[.bool t340, .int .i64 t341, .int .i64 t342, .int .i64 t343, .int .i64 t344, .int .i64 t345])]) (fun s_ w' => (w'.cell? ⟨gb305, 0, none⟩ = some (.int .i64 a0_0) ∧ w'.cell? ⟨gb305, 1, none⟩ = some (.int .i64 a0_1) ∧ w'.cell? ⟨gb305, 2, none⟩ = some (.int .i64 a0_2) ∧ w'.cell? ⟨gb305, 3, none⟩ = some (.int .i64 a0_3) ∧ w'.cell? ⟨gb305, 4, none⟩ = some (.int .i64 a0_4) ∧ w'.cell? ⟨gb306, 0, none⟩ = some (.bool a2_0) ∧ w'.cell? ⟨gb306, 1, none⟩ = some (.int .i64 a2_1) ∧ w'.cell? ⟨gb306, 2, none⟩ = some (.int .i64 a2_2) ∧ w'.cell? ⟨gb306, 3, none⟩ = some (.int .i64 a2_3) ∧ w'.cell? ⟨gb306, 4, none⟩ = some (.int .i64 a2_4) ∧ w'.cell? ⟨gb306, 5, none⟩ = some (.int .i64 a2_5) ∧ w'.cell? ⟨gb307, 0, none⟩ = some (.int .i64 a3_0) ∧ w'.cell? ⟨gb307, 1, none⟩ = some (.int .i64 a3_1)) ∧ (Kd.R k37 37 w' w.heap.size (fun k_ => some k_ ≠ (.slice Ao44 t332.length co44 : Value).ownBlock) v315 t314) ∧ (Kd.R k37 37 w' w.heap.size (fun k_ => some k_ ≠ (v315 : Value).ownBlock) (.slice Ao44 t332.length co44) t332) ∧ (w'.heap[gb305]? = some (.cells #[.int .i64 a0_0, .int .i64 a0_1, .int .i64 a0_2, .int .i64 a0_3, .int .i64 a0_4] 39 (0, 0))) ∧ (w'.heap[gb306]? = some (.cells #[.bool a2_0, .int .i64 a2_1, .int .i64 a2_2, .int .i64 a2_3, .int .i64 a2_4, .int .i64 a2_5] 43 (0, 0))) ∧ (w'.heap[gb307]? = some (.cells #[.int .i64 a3_0, .int .i64 a3_1] 44 (0, 0))) ∧ (w'.heap[gb331]? = some (.cells #[.bool t325, .int .i64 t326, .int .i64 t327, .int .i64 t328, .int .i64 t329, .int .i64 t330] 29 (0, 0))) ∧ (Below w.heap.size w w')) ?_ ?_
         rotate_left
         ·intro hJ1_4
          refine join_ (σ := Nat) 4 #[true, true, true, true, false, true, false, false, true, false] (fun s_ => [(30, .agg #[.int .i64 t335, .int .i64 t336, .int .i64 t337, .int .i64 t338, .int .i64 t339]), (12, .pointer (some ⟨s_, 0, none⟩))]) (fun s_ w' => (w'.cell? ⟨gb305, 0, none⟩ = some (.int .i64 a0_0) ∧ w'.cell? ⟨gb305, 1, none⟩ = some (.int .i64 a0_1) ∧ w'.cell? ⟨gb305, 2, none⟩ = some (.int .i64 a0_2) ∧ w'.cell? ⟨gb305, 3, none⟩ = some (.int .i64 a0_3) ∧ w'.cell? ⟨gb305, 4, none⟩ = some (.int .i64 a0_4) ∧ w'.cell? ⟨gb306, 0, none⟩ = some (.bool a2_0) ∧ w'.cell? ⟨gb306, 1, none⟩ = some (.int .i64 a2_1) ∧ w'.cell? ⟨gb306, 2, none⟩ = some (.int .i64 a2_2) ∧ w'.cell? ⟨gb306, 3, none⟩ = some (.int .i64 a2_3) ∧ w'.cell? ⟨gb306, 4, none⟩ = some (.int .i64 a2_4) ∧ w'.cell? ⟨gb306, 5, none⟩ = some (.int .i64 a2_5) ∧ w'.cell? ⟨gb307, 0, none⟩ = some (.int .i64 a3_0) ∧ w'.cell? ⟨gb307, 1, none⟩ = some (.int .i64 a3_1)) ∧ (Kd.R k37 37 w' w.heap.size (fun k_ => some k_ ≠ (.slice Ao44 t332.length co44 : Value).ownBlock) v315 t314) ∧ (Kd.R k37 37 w' w.heap.size (fun k_ => some k_ ≠ (v315 : Value).ownBlock) (.slice Ao44 t332.length co44) t332) ∧ (w'.heap[gb305]? = some (.cells #[.int .i64 a0_0, .int .i64 a0_1, .int .i64 a0_2, .int .i64 a0_3, .int .i64 a0_4] 39 (0, 0))) ∧ (w'.heap[gb306]? = some (.cells #[.bool a2_0, .int .i64 a2_1, .int .i64 a2_2, .int .i64 a2_3, .int .i64 a2_4, .int .i64 a2_5] 43 (0, 0))) ∧ (w'.heap[gb307]? = some (.cells #[.int .i64 a3_0, .int .i64 a3_1] 44 (0, 0))) ∧ (w'.heap[gb331]? = some (.cells #[.bool t325, .int .i64 t326, .int .i64 t327, .int .i64 t328, .int .i64 t329, .int .i64 t330] 29 (0, 0))) ∧ (w'.heap[s_]? = some (.cells #[.bool false, .int .i64 0, .int .i64 0, .int .i64 0, .int .i64 0, .int .i64 0] 29 (0, 0))) ∧ (w.heap.size ≤ s_) ∧ (w.heap.size ≤ s_) ∧ (gb305 ≠ s_) ∧ (s_ ≠ gb305) ∧ (gb306 ≠ s_) ∧ (s_ ≠ gb306) ∧ (gb307 ≠ s_) ∧ (s_ ≠ gb307) ∧ (gb331 ≠ s_) ∧ (s_ ≠ gb331) ∧ (Below w.heap.size w w')) ?_ ?_
          rotate_left
          ·intro hJ1_8
           refine join_ (σ := Unit) 5 #[true, true, true, true, false, true, false, false, false, false] (fun s_ => [(30, .agg #[.int .i64 t335, .int .i64 t336, .int .i64 t337, .int .i64 t338, .int .i64 t339])]) (fun s_ w' => (w'.cell? ⟨gb305, 0, none⟩ = some (.int .i64 a0_0) ∧ w'.cell? ⟨gb305, 1, none⟩ = some (.int .i64 a0_1) ∧ w'.cell? ⟨gb305, 2, none⟩ = some (.int .i64 a0_2) ∧ w'.cell? ⟨gb305, 3, none⟩ = some (.int .i64 a0_3) ∧ w'.cell? ⟨gb305, 4, none⟩ = some (.int .i64 a0_4) ∧ w'.cell? ⟨gb306, 0, none⟩ = some (.bool a2_0) ∧ w'.cell? ⟨gb306, 1, none⟩ = some (.int .i64 a2_1) ∧ w'.cell? ⟨gb306, 2, none⟩ = some (.int .i64 a2_2) ∧ w'.cell? ⟨gb306, 3, none⟩ = some (.int .i64 a2_3) ∧ w'.cell? ⟨gb306, 4, none⟩ = some (.int .i64 a2_4) ∧ w'.cell? ⟨gb306, 5, none⟩ = some (.int .i64 a2_5) ∧ w'.cell? ⟨gb307, 0, none⟩ = some (.int .i64 a3_0) ∧ w'.cell? ⟨gb307, 1, none⟩ = some (.int .i64 a3_1)) ∧ (Kd.R k37 37 w' w.heap.size (fun k_ => some k_ ≠ (.slice Ao44 t332.length co44 : Value).ownBlock) v315 t314) ∧ (Kd.R k37 37 w' w.heap.size (fun k_ => some k_ ≠ (v315 : Value).ownBlock) (.slice Ao44 t332.length co44) t332) ∧ (w'.heap[gb305]? = some (.cells #[.int .i64 a0_0, .int .i64 a0_1, .int .i64 a0_2, .int .i64 a0_3, .int .i64 a0_4] 39 (0, 0))) ∧ (w'.heap[gb306]? = some (.cells #[.bool a2_0, .int .i64 a2_1, .int .i64 a2_2, .int .i64 a2_3, .int .i64 a2_4, .int .i64 a2_5] 43 (0, 0))) ∧ (w'.heap[gb307]? = some (.cells #[.int .i64 a3_0, .int .i64 a3_1] 44 (0, 0))) ∧ (w'.heap[gb331]? = some (.cells #[.bool t325, .int .i64 t326, .int .i64 t327, .int .i64 t328, .int .i64 t329, .int .i64 t330] 29 (0, 0))) ∧ (Below w.heap.size w w')) ?_ ?_
           rotate_left
           ·intro hJ1
            refine join_ (σ := Nat) 5 #[true, false, true, true, false, true, false, false, true, false] (fun s_ => [(12, .pointer (some ⟨s_, 0, none⟩))]) (fun s_ w' => (w'.cell? ⟨gb305, 0, none⟩ = some (.int .i64 a0_0) ∧ w'.cell? ⟨gb305, 1, none⟩ = some (.int .i64 a0_1) ∧ w'.cell? ⟨gb305, 2, none⟩ = some (.int .i64 a0_2) ∧ w'.cell? ⟨gb305, 3, none⟩ = some (.int .i64 a0_3) ∧ w'.cell? ⟨gb305, 4, none⟩ = some (.int .i64 a0_4) ∧ w'.cell? ⟨gb306, 0, none⟩ = some (.bool a2_0) ∧ w'.cell? ⟨gb306, 1, none⟩ = some (.int .i64 a2_1) ∧ w'.cell? ⟨gb306, 2, none⟩ = some (.int .i64 a2_2) ∧ w'.cell? ⟨gb306, 3, none⟩ = some (.int .i64 a2_3) ∧ w'.cell? ⟨gb306, 4, none⟩ = some (.int .i64 a2_4) ∧ w'.cell? ⟨gb306, 5, none⟩ = some (.int .i64 a2_5) ∧ w'.cell? ⟨gb307, 0, none⟩ = some (.int .i64 a3_0) ∧ w'.cell? ⟨gb307, 1, none⟩ = some (.int .i64 a3_1)) ∧ (Kd.R k37 37 w' w.heap.size (fun k_ => some k_ ≠ (.slice Ao44 t332.length co44 : Value).ownBlock) v315 t314) ∧ (Kd.R k37 37 w' w.heap.size (fun k_ => some k_ ≠ (v315 : Value).ownBlock) (.slice Ao44 t332.length co44) t332) ∧ (w'.heap[gb305]? = some (.cells #[.int .i64 a0_0, .int .i64 a0_1, .int .i64 a0_2, .int .i64 a0_3, .int .i64 a0_4] 39 (0, 0))) ∧ (w'.heap[gb306]? = some (.cells #[.bool a2_0, .int .i64 a2_1, .int .i64 a2_2, .int .i64 a2_3, .int .i64 a2_4, .int .i64 a2_5] 43 (0, 0))) ∧ (w'.heap[gb307]? = some (.cells #[.int .i64 a3_0, .int .i64 a3_1] 44 (0, 0))) ∧ (w'.heap[gb331]? = some (.cells #[.bool t325, .int .i64 t326, .int .i64 t327, .int .i64 t328, .int .i64 t329, .int .i64 t330] 29 (0, 0))) ∧ (w'.heap[s_]? = some (.cells #[.bool false, .int .i64 0, .int .i64 0, .int .i64 0, .int .i64 0, .int .i64 0] 29 (0, 0))) ∧ (w.heap.size ≤ s_) ∧ (w.heap.size ≤ s_) ∧ (gb305 ≠ s_) ∧ (s_ ≠ gb305) ∧ (gb306 ≠ s_) ∧ (s_ ≠ gb306) ∧ (gb307 ≠ s_) ∧ (s_ ≠ gb307) ∧ (gb331 ≠ s_) ∧ (s_ ≠ gb331) ∧ (Below w.heap.size w w')) ?_ ?_
            rotate_left
            ·intro hJ8
             refine two_ (i := 1) (j := 8) (Ni := some 30) (Nj := some 12) #[true, true, true, true, false, true, false, false, false, false] #[true, false, true, true, false, true, false, false, true, false] rfl rfl rfl rfl (two_of HT_.out (by kernel_rfl)) (by decide) (by decide) (fun K hK => ?_) (fun K hK => ?_)
             ·skip
              refine zG Try.func19 #[.agg #[.int .i64 a0_0, .int .i64 a0_1, .int .i64 a0_2, .int .i64 a0_3, .int .i64 a0_4]] ?_
              with_reducible refine (laws_toRules.calls a0_0 a0_1 a0_2 a0_3 a0_4 t335 t336 t337 t338 t339 _ A16.out).mono ?_
              rintro e w46 ⟨rfl, hb⟩
              refine ⟨_, rfl, ?_⟩
              have n0_ := Aside0.mk (Kd.R_below (zr HO316) hb)
              have n1_ := Aside0.mk (Kd.R_below (zr HO334) hb)
              replace BK305 := zb BK305 hb
              replace BK306 := zb BK306 hb
              replace BK307 := zb BK307 hb
              replace BK331 := zb BK331 hb
              replace HB := zB HB hb
              clear HO316 HO334
              have HO316 := n0_
              have HO334 := n1_
              clear n0_ n1_
              (try clear hb)
              refine hK.out _ _ ⟨zc BK305 0, zc BK305 1, zc BK305 2, zc BK305 3, zc BK305 4, zc BK306 0, zc BK306 1, zc BK306 2, zc BK306 3, zc BK306 4, zc BK306 5, zc BK307 0, zc BK307 1⟩ (fun hHeld => ?_)
              clear hK K
              refine zn 30 ?_
              exact norm_ (by first | (simp only [putAll, Act.put, List.setIfInBounds_toArray, List.set_cons_zero, List.set_cons_succ]; done) | (simp only [putAll, Act.put, List.setIfInBounds_toArray, List.set_cons_zero, List.set_cons_succ]; rfl)) (hJ1 () _ ⟨hHeld, (by (with_reducible repeat (first | apply Kd.R_alloc | apply Kd.R_drewN | apply Kd.R_drew)); exact Kd.R_mono HO316.out (fun _ hk => hk.2)), (by (with_reducible repeat (first | apply Kd.R_alloc | apply Kd.R_drewN | apply Kd.R_drew)); exact Kd.R_mono HO334.out (fun _ hk => hk.2)), (zy BK305), (zy BK306), (zy BK307), (zy BK331), (by repeat (first | (with_reducible first | exact HB.out | apply below_alloc | apply pw_below_drewN | apply below_drew1 | refine below_set ?_ GE305.out | refine below_set ?_ GE306.out | refine below_set ?_ GE307.out | refine below_set ?_ GE331.out) | exact HB.out))⟩)
             ·skip
              refine box_step ?hg (N := 12) ?hd (cs := #[.bool false, .int .i64 0, .int .i64 0, .int .i64 0, .int .i64 0, .int .i64 0]) (t := 29) ?hr ?_; (case hd => rfl); (case hg => rfl); (case hr => first | (go_simp; done) | (go_simp; rfl))
              intro gb354 hg w46 hbox hb
              have n0_ := Aside0.mk (Kd.R_below (zr HO316) hb)
              have n1_ := Aside0.mk (Kd.R_below (zr HO334) hb)
              have BK354 := Aside0.mk (hbox)
              have GW354 := zge HB hg
              have GE354 := GW354
              have NB305_354 := zl BK305 hg
              have NB354_305 := zg BK305 hg
              have NB306_354 := zl BK306 hg
              have NB354_306 := zg BK306 hg
              have NB307_354 := zl BK307 hg
              have NB354_307 := zg BK307 hg
              have NB331_354 := zl BK331 hg
              have NB354_331 := zg BK331 hg
              replace BK305 := zb BK305 hb
              replace BK306 := zb BK306 hb
              replace BK307 := zb BK307 hb
              replace BK331 := zb BK331 hb
              replace HB := zB HB hb
              clear HO316 HO334
              have HO316 := n0_
              have HO334 := n1_
              clear n0_ n1_ hb hbox hg
              refine hK.out _ _ ⟨zc BK305 0, zc BK305 1, zc BK305 2, zc BK305 3, zc BK305 4, zc BK306 0, zc BK306 1, zc BK306 2, zc BK306 3, zc BK306 4, zc BK306 5, zc BK307 0, zc BK307 1⟩ (fun hHeld => ?_)
              clear hK K
              refine zn 12 ?_
              exact norm_ (by first | (simp only [putAll, Act.put, List.setIfInBounds_toArray, List.set_cons_zero, List.set_cons_succ]; done) | (simp only [putAll, Act.put, List.setIfInBounds_toArray, List.set_cons_zero, List.set_cons_succ]; rfl)) (hJ8 (gb354) _ ⟨hHeld, (by (with_reducible repeat (first | apply Kd.R_alloc | apply Kd.R_drewN | apply Kd.R_drew)); exact Kd.R_mono HO316.out (fun _ hk => hk.2)), (by (with_reducible repeat (first | apply Kd.R_alloc | apply Kd.R_drewN | apply Kd.R_drew)); exact Kd.R_mono HO334.out (fun _ hk => hk.2)), (zy BK305), (zy BK306), (zy BK307), (zy BK331), (zy BK354), GW354.out, GE354.out, NB305_354.out, NB354_305.out, NB306_354.out, NB354_306.out, NB307_354.out, NB354_307.out, NB331_354.out, NB354_331.out, (by repeat (first | (with_reducible first | exact HB.out | apply below_alloc | apply pw_below_drewN | apply below_drew1 | refine below_set ?_ GE305.out | refine below_set ?_ GE306.out | refine below_set ?_ GE307.out | refine below_set ?_ GE331.out | refine below_set ?_ GE354.out) | exact HB.out))⟩)
            ·skip
             rintro gb354 w47 ⟨hS_, h0_, h1_, h2_, h3_, h4_, h5_, h6_, h7_, h8_, h9_, h10_, h11_, h12_, h13_, h14_, h15_, h16_, h17_⟩
             have n0_ : Aside0 (Kd.R k37 37 w47 w.heap.size (fun k_ => some k_ ≠ (.slice Ao44 t332.length co44 : Value).ownBlock) v315 t314) := ⟨h0_⟩
             have n1_ : Aside0 (Kd.R k37 37 w47 w.heap.size (fun k_ => some k_ ≠ (v315 : Value).ownBlock) (.slice Ao44 t332.length co44) t332) := ⟨h1_⟩
             have n2_ : Aside0 (w47.heap[gb305]? = some (.cells #[.int .i64 a0_0, .int .i64 a0_1, .int .i64 a0_2, .int .i64 a0_3, .int .i64 a0_4] 39 (0, 0))) := ⟨h2_⟩
             have n3_ : Aside0 (w47.heap[gb306]? = some (.cells #[.bool a2_0, .int .i64 a2_1, .int .i64 a2_2, .int .i64 a2_3, .int .i64 a2_4, .int .i64 a2_5] 43 (0, 0))) := ⟨h3_⟩
             have n4_ : Aside0 (w47.heap[gb307]? = some (.cells #[.int .i64 a3_0, .int .i64 a3_1] 44 (0, 0))) := ⟨h4_⟩
             have n5_ : Aside0 (w47.heap[gb331]? = some (.cells #[.bool t325, .int .i64 t326, .int .i64 t327, .int .i64 t328, .int .i64 t329, .int .i64 t330] 29 (0, 0))) := ⟨h5_⟩
             have n6_ : Aside0 (w47.heap[gb354]? = some (.cells #[.bool false, .int .i64 0, .int .i64 0, .int .i64 0, .int .i64 0, .int .i64 0] 29 (0, 0))) := ⟨h6_⟩
             have n7_ : Aside0 (w.heap.size ≤ gb354) := ⟨h7_⟩
             have n8_ : Aside0 (w.heap.size ≤ gb354) := ⟨h8_⟩
             have n9_ : Aside0 (gb305 ≠ gb354) := ⟨h9_⟩
             have n10_ : Aside0 (gb354 ≠ gb305) := ⟨h10_⟩
             have n11_ : Aside0 (gb306 ≠ gb354) := ⟨h11_⟩
             have n12_ : Aside0 (gb354 ≠ gb306) := ⟨h12_⟩
             have n13_ : Aside0 (gb307 ≠ gb354) := ⟨h13_⟩
             have n14_ : Aside0 (gb354 ≠ gb307) := ⟨h14_⟩
             have n15_ : Aside0 (gb331 ≠ gb354) := ⟨h15_⟩
             have n16_ : Aside0 (gb354 ≠ gb331) := ⟨h16_⟩
             have n17_ : Aside0 (Below w.heap.size w w47) := ⟨h17_⟩
             clear HO316 HO334 BK305 BK306 BK307 BK331 HB h0_ h1_ h2_ h3_ h4_ h5_ h6_ h7_ h8_ h9_ h10_ h11_ h12_ h13_ h14_ h15_ h16_ h17_
             have HO316 := n0_
             have HO334 := n1_
             have BK305 := n2_
             have BK306 := n3_
             have BK307 := n4_
             have BK331 := n5_
             have BK354 := n6_
             have GW354 := n7_
             have GE354 := n8_
             have NB305_354 := n9_
             have NB354_305 := n10_
             have NB306_354 := n11_
             have NB354_306 := n12_
             have NB307_354 := n13_
             have NB354_307 := n14_
             have NB331_354 := n15_
             have NB354_331 := n16_
             have HB := n17_
             clear n0_ n1_ n2_ n3_ n4_ n5_ n6_ n7_ n8_ n9_ n10_ n11_ n12_ n13_ n14_ n15_ n16_ n17_
             have hHeld : w47.cell? ⟨gb305, 0, none⟩ = some (.int .i64 a0_0) ∧ w47.cell? ⟨gb305, 1, none⟩ = some (.int .i64 a0_1) ∧ w47.cell? ⟨gb305, 2, none⟩ = some (.int .i64 a0_2) ∧ w47.cell? ⟨gb305, 3, none⟩ = some (.int .i64 a0_3) ∧ w47.cell? ⟨gb305, 4, none⟩ = some (.int .i64 a0_4) ∧ w47.cell? ⟨gb306, 0, none⟩ = some (.bool a2_0) ∧ w47.cell? ⟨gb306, 1, none⟩ = some (.int .i64 a2_1) ∧ w47.cell? ⟨gb306, 2, none⟩ = some (.int .i64 a2_2) ∧ w47.cell? ⟨gb306, 3, none⟩ = some (.int .i64 a2_3) ∧ w47.cell? ⟨gb306, 4, none⟩ = some (.int .i64 a2_4) ∧ w47.cell? ⟨gb306, 5, none⟩ = some (.int .i64 a2_5) ∧ w47.cell? ⟨gb307, 0, none⟩ = some (.int .i64 a3_0) ∧ w47.cell? ⟨gb307, 1, none⟩ = some (.int .i64 a3_1) := hS_
             refine norm_ (a' := ?_) ?_ ?_
             rotate_left
             ·simp only [putAll, Act.put, List.setIfInBounds_toArray, List.set_cons_zero, List.set_cons_succ]
              rfl
             refine zo 1 (some 30) (zm 10 303) HT_ (fun K hK => ?_)
             refine zG Try.func19 #[.agg #[.int .i64 a0_0, .int .i64 a0_1, .int .i64 a0_2, .int .i64 a0_3, .int .i64 a0_4]] ?_
             with_reducible refine (laws_toRules.calls a0_0 a0_1 a0_2 a0_3 a0_4 t335 t336 t337 t338 t339 _ A16.out).mono ?_
             rintro e w48 ⟨rfl, hb⟩
             refine ⟨_, rfl, ?_⟩
             have n0_ := Aside0.mk (Kd.R_below (zr HO316) hb)
             have n1_ := Aside0.mk (Kd.R_below (zr HO334) hb)
             replace BK305 := zb BK305 hb
             replace BK306 := zb BK306 hb
             replace BK307 := zb BK307 hb
             replace BK331 := zb BK331 hb
             replace BK354 := zb BK354 hb
             replace HB := zB HB hb
             clear HO316 HO334
             have HO316 := n0_
             have HO334 := n1_
             clear n0_ n1_
             (try clear hb)
             refine hK.out _ _ ⟨zc BK305 0, zc BK305 1, zc BK305 2, zc BK305 3, zc BK305 4, zc BK306 0, zc BK306 1, zc BK306 2, zc BK306 3, zc BK306 4, zc BK306 5, zc BK307 0, zc BK307 1⟩ (fun hHeld => ?_)
             clear hK K
             refine zn 30 ?_
             exact norm_ (by first | (simp only [putAll, Act.put, List.setIfInBounds_toArray, List.set_cons_zero, List.set_cons_succ]; done) | (simp only [putAll, Act.put, List.setIfInBounds_toArray, List.set_cons_zero, List.set_cons_succ]; rfl)) (hJ1_8 (gb354) _ ⟨hHeld, (zr HO316), (zr HO334), (zy BK305), (zy BK306), (zy BK307), (zy BK331), (zy BK354), GW354.out, GE354.out, NB305_354.out, NB354_305.out, NB306_354.out, NB354_306.out, NB307_354.out, NB354_307.out, NB331_354.out, NB354_331.out, (by repeat (first | (with_reducible first | exact HB.out | apply below_alloc | apply pw_below_drewN | apply below_drew1 | refine below_set ?_ GE305.out | refine below_set ?_ GE306.out | refine below_set ?_ GE307.out | refine below_set ?_ GE331.out | refine below_set ?_ GE354.out) | exact HB.out))⟩)
           ·skip
            rintro _ w47 ⟨hS_, h0_, h1_, h2_, h3_, h4_, h5_, h6_⟩
            have n0_ : Aside0 (Kd.R k37 37 w47 w.heap.size (fun k_ => some k_ ≠ (.slice Ao44 t332.length co44 : Value).ownBlock) v315 t314) := ⟨h0_⟩
            have n1_ : Aside0 (Kd.R k37 37 w47 w.heap.size (fun k_ => some k_ ≠ (v315 : Value).ownBlock) (.slice Ao44 t332.length co44) t332) := ⟨h1_⟩
            have n2_ : Aside0 (w47.heap[gb305]? = some (.cells #[.int .i64 a0_0, .int .i64 a0_1, .int .i64 a0_2, .int .i64 a0_3, .int .i64 a0_4] 39 (0, 0))) := ⟨h2_⟩
            have n3_ : Aside0 (w47.heap[gb306]? = some (.cells #[.bool a2_0, .int .i64 a2_1, .int .i64 a2_2, .int .i64 a2_3, .int .i64 a2_4, .int .i64 a2_5] 43 (0, 0))) := ⟨h3_⟩
            have n4_ : Aside0 (w47.heap[gb307]? = some (.cells #[.int .i64 a3_0, .int .i64 a3_1] 44 (0, 0))) := ⟨h4_⟩
            have n5_ : Aside0 (w47.heap[gb331]? = some (.cells #[.bool t325, .int .i64 t326, .int .i64 t327, .int .i64 t328, .int .i64 t329, .int .i64 t330] 29 (0, 0))) := ⟨h5_⟩
            have n6_ : Aside0 (Below w.heap.size w w47) := ⟨h6_⟩
            clear HO316 HO334 BK305 BK306 BK307 BK331 HB h0_ h1_ h2_ h3_ h4_ h5_ h6_
            have HO316 := n0_
            have HO334 := n1_
            have BK305 := n2_
            have BK306 := n3_
            have BK307 := n4_
            have BK331 := n5_
            have HB := n6_
            clear n0_ n1_ n2_ n3_ n4_ n5_ n6_
            have hHeld : w47.cell? ⟨gb305, 0, none⟩ = some (.int .i64 a0_0) ∧ w47.cell? ⟨gb305, 1, none⟩ = some (.int .i64 a0_1) ∧ w47.cell? ⟨gb305, 2, none⟩ = some (.int .i64 a0_2) ∧ w47.cell? ⟨gb305, 3, none⟩ = some (.int .i64 a0_3) ∧ w47.cell? ⟨gb305, 4, none⟩ = some (.int .i64 a0_4) ∧ w47.cell? ⟨gb306, 0, none⟩ = some (.bool a2_0) ∧ w47.cell? ⟨gb306, 1, none⟩ = some (.int .i64 a2_1) ∧ w47.cell? ⟨gb306, 2, none⟩ = some (.int .i64 a2_2) ∧ w47.cell? ⟨gb306, 3, none⟩ = some (.int .i64 a2_3) ∧ w47.cell? ⟨gb306, 4, none⟩ = some (.int .i64 a2_4) ∧ w47.cell? ⟨gb306, 5, none⟩ = some (.int .i64 a2_5) ∧ w47.cell? ⟨gb307, 0, none⟩ = some (.int .i64 a3_0) ∧ w47.cell? ⟨gb307, 1, none⟩ = some (.int .i64 a3_1) := hS_
            refine norm_ (a' := ?_) ?_ ?_
            rotate_left
            ·simp only [putAll, Act.put, List.setIfInBounds_toArray, List.set_cons_zero, List.set_cons_succ]
             rfl
            refine two_ (i := 4) (j := 8) (Ni := some 33) (Nj := some 12) #[true, true, true, true, true, true, false, false, false, false] #[true, true, true, true, false, true, false, false, true, false] rfl rfl rfl rfl (two_of HT_.out (by kernel_rfl)) (by decide) (by decide) (fun K hK => ?_) (fun K hK => ?_)
            ·skip
             refine zG Try.func21 #[.agg #[.bool a2_0, .int .i64 a2_1, .int .i64 a2_2, .int .i64 a2_3, .int .i64 a2_4, .int .i64 a2_5]] ?_
             with_reducible refine (laws_toState.calls a2_0 a2_1 a2_2 a2_3 a2_4 a2_5 t340 t341 t342 t343 t344 t345 _ A17.out).mono ?_
             rintro e w48 ⟨rfl, hb⟩
             refine ⟨_, rfl, ?_⟩
             have n0_ := Aside0.mk (Kd.R_below (zr HO316) hb)
             have n1_ := Aside0.mk (Kd.R_below (zr HO334) hb)
             replace BK305 := zb BK305 hb
             replace BK306 := zb BK306 hb
             replace BK307 := zb BK307 hb
             replace BK331 := zb BK331 hb
             replace HB := zB HB hb
             clear HO316 HO334
             have HO316 := n0_
             have HO334 := n1_
             clear n0_ n1_
             (try clear hb)
             refine hK.out _ _ ⟨zc BK305 0, zc BK305 1, zc BK305 2, zc BK305 3, zc BK305 4, zc BK306 0, zc BK306 1, zc BK306 2, zc BK306 3, zc BK306 4, zc BK306 5, zc BK307 0, zc BK307 1⟩ (fun hHeld => ?_)
             clear hK K
             refine zn 33 ?_
             exact norm_ (by first | (simp only [putAll, Act.put, List.setIfInBounds_toArray, List.set_cons_zero, List.set_cons_succ]; done) | (simp only [putAll, Act.put, List.setIfInBounds_toArray, List.set_cons_zero, List.set_cons_succ]; rfl)) (hJ1_4 () _ ⟨hHeld, (zr HO316), (zr HO334), (zy BK305), (zy BK306), (zy BK307), (zy BK331), (by repeat (first | (with_reducible first | exact HB.out | apply below_alloc | apply pw_below_drewN | apply below_drew1 | refine below_set ?_ GE305.out | refine below_set ?_ GE306.out | refine below_set ?_ GE307.out | refine below_set ?_ GE331.out) | exact HB.out))⟩)
            ·skip
             refine box_step ?hg (N := 12) ?hd (cs := #[.bool false, .int .i64 0, .int .i64 0, .int .i64 0, .int .i64 0, .int .i64 0]) (t := 29) ?hr ?_; (case hd => rfl); (case hg => rfl); (case hr => first | (go_simp; done) | (go_simp; rfl))
             intro gb354 hg w48 hbox hb
             have n0_ := Aside0.mk (Kd.R_below (zr HO316) hb)
             have n1_ := Aside0.mk (Kd.R_below (zr HO334) hb)
             have BK354 := Aside0.mk (hbox)
             have GW354 := zge HB hg
             have GE354 := GW354
             have NB305_354 := zl BK305 hg
             have NB354_305 := zg BK305 hg
             have NB306_354 := zl BK306 hg
             have NB354_306 := zg BK306 hg
             have NB307_354 := zl BK307 hg
             have NB354_307 := zg BK307 hg
             have NB331_354 := zl BK331 hg
             have NB354_331 := zg BK331 hg
             replace BK305 := zb BK305 hb
             replace BK306 := zb BK306 hb
             replace BK307 := zb BK307 hb
             replace BK331 := zb BK331 hb
             replace HB := zB HB hb
             clear HO316 HO334
             have HO316 := n0_
             have HO334 := n1_
             clear n0_ n1_ hb hbox hg
             refine hK.out _ _ ⟨zc BK305 0, zc BK305 1, zc BK305 2, zc BK305 3, zc BK305 4, zc BK306 0, zc BK306 1, zc BK306 2, zc BK306 3, zc BK306 4, zc BK306 5, zc BK307 0, zc BK307 1⟩ (fun hHeld => ?_)
             clear hK K
             refine zn 12 ?_
             exact norm_ (by first | (simp only [putAll, Act.put, List.setIfInBounds_toArray, List.set_cons_zero, List.set_cons_succ]; done) | (simp only [putAll, Act.put, List.setIfInBounds_toArray, List.set_cons_zero, List.set_cons_succ]; rfl)) (hJ1_8 (gb354) _ ⟨hHeld, (zr HO316), (zr HO334), (zy BK305), (zy BK306), (zy BK307), (zy BK331), (zy BK354), GW354.out, GE354.out, NB305_354.out, NB354_305.out, NB306_354.out, NB354_306.out, NB307_354.out, NB354_307.out, NB331_354.out, NB354_331.out, (by repeat (first | (with_reducible first | exact HB.out | apply below_alloc | apply pw_below_drewN | apply below_drew1 | refine below_set ?_ GE305.out | refine below_set ?_ GE306.out | refine below_set ?_ GE307.out | refine below_set ?_ GE331.out | refine below_set ?_ GE354.out) | exact HB.out))⟩)
          ·skip
           rintro gb354 w48 ⟨hS_, h0_, h1_, h2_, h3_, h4_, h5_, h6_, h7_, h8_, h9_, h10_, h11_, h12_, h13_, h14_, h15_, h16_, h17_⟩
           have n0_ : Aside0 (Kd.R k37 37 w48 w.heap.size (fun k_ => some k_ ≠ (.slice Ao44 t332.length co44 : Value).ownBlock) v315 t314) := ⟨h0_⟩
           have n1_ : Aside0 (Kd.R k37 37 w48 w.heap.size (fun k_ => some k_ ≠ (v315 : Value).ownBlock) (.slice Ao44 t332.length co44) t332) := ⟨h1_⟩
           have n2_ : Aside0 (w48.heap[gb305]? = some (.cells #[.int .i64 a0_0, .int .i64 a0_1, .int .i64 a0_2, .int .i64 a0_3, .int .i64 a0_4] 39 (0, 0))) := ⟨h2_⟩
           have n3_ : Aside0 (w48.heap[gb306]? = some (.cells #[.bool a2_0, .int .i64 a2_1, .int .i64 a2_2, .int .i64 a2_3, .int .i64 a2_4, .int .i64 a2_5] 43 (0, 0))) := ⟨h3_⟩
           have n4_ : Aside0 (w48.heap[gb307]? = some (.cells #[.int .i64 a3_0, .int .i64 a3_1] 44 (0, 0))) := ⟨h4_⟩
           have n5_ : Aside0 (w48.heap[gb331]? = some (.cells #[.bool t325, .int .i64 t326, .int .i64 t327, .int .i64 t328, .int .i64 t329, .int .i64 t330] 29 (0, 0))) := ⟨h5_⟩
           have n6_ : Aside0 (w48.heap[gb354]? = some (.cells #[.bool false, .int .i64 0, .int .i64 0, .int .i64 0, .int .i64 0, .int .i64 0] 29 (0, 0))) := ⟨h6_⟩
           have n7_ : Aside0 (w.heap.size ≤ gb354) := ⟨h7_⟩
           have n8_ : Aside0 (w.heap.size ≤ gb354) := ⟨h8_⟩
           have n9_ : Aside0 (gb305 ≠ gb354) := ⟨h9_⟩
           have n10_ : Aside0 (gb354 ≠ gb305) := ⟨h10_⟩
           have n11_ : Aside0 (gb306 ≠ gb354) := ⟨h11_⟩
           have n12_ : Aside0 (gb354 ≠ gb306) := ⟨h12_⟩
           have n13_ : Aside0 (gb307 ≠ gb354) := ⟨h13_⟩
           have n14_ : Aside0 (gb354 ≠ gb307) := ⟨h14_⟩
           have n15_ : Aside0 (gb331 ≠ gb354) := ⟨h15_⟩
           have n16_ : Aside0 (gb354 ≠ gb331) := ⟨h16_⟩
           have n17_ : Aside0 (Below w.heap.size w w48) := ⟨h17_⟩
           clear HO316 HO334 BK305 BK306 BK307 BK331 HB h0_ h1_ h2_ h3_ h4_ h5_ h6_ h7_ h8_ h9_ h10_ h11_ h12_ h13_ h14_ h15_ h16_ h17_
           have HO316 := n0_
           have HO334 := n1_
           have BK305 := n2_
           have BK306 := n3_
           have BK307 := n4_
           have BK331 := n5_
           have BK354 := n6_
           have GW354 := n7_
           have GE354 := n8_
           have NB305_354 := n9_
           have NB354_305 := n10_
           have NB306_354 := n11_
           have NB354_306 := n12_
           have NB307_354 := n13_
           have NB354_307 := n14_
           have NB331_354 := n15_
           have NB354_331 := n16_
           have HB := n17_
           clear n0_ n1_ n2_ n3_ n4_ n5_ n6_ n7_ n8_ n9_ n10_ n11_ n12_ n13_ n14_ n15_ n16_ n17_
           have hHeld : w48.cell? ⟨gb305, 0, none⟩ = some (.int .i64 a0_0) ∧ w48.cell? ⟨gb305, 1, none⟩ = some (.int .i64 a0_1) ∧ w48.cell? ⟨gb305, 2, none⟩ = some (.int .i64 a0_2) ∧ w48.cell? ⟨gb305, 3, none⟩ = some (.int .i64 a0_3) ∧ w48.cell? ⟨gb305, 4, none⟩ = some (.int .i64 a0_4) ∧ w48.cell? ⟨gb306, 0, none⟩ = some (.bool a2_0) ∧ w48.cell? ⟨gb306, 1, none⟩ = some (.int .i64 a2_1) ∧ w48.cell? ⟨gb306, 2, none⟩ = some (.int .i64 a2_2) ∧ w48.cell? ⟨gb306, 3, none⟩ = some (.int .i64 a2_3) ∧ w48.cell? ⟨gb306, 4, none⟩ = some (.int .i64 a2_4) ∧ w48.cell? ⟨gb306, 5, none⟩ = some (.int .i64 a2_5) ∧ w48.cell? ⟨gb307, 0, none⟩ = some (.int .i64 a3_0) ∧ w48.cell? ⟨gb307, 1, none⟩ = some (.int .i64 a3_1) := hS_
           refine norm_ (a' := ?_) ?_ ?_
           rotate_left
           ·simp only [putAll, Act.put, List.setIfInBounds_toArray, List.set_cons_zero, List.set_cons_succ]
            rfl
           refine zo 4 (some 33) (zm 10 319) HT_ (fun K hK => ?_)
           refine zG Try.func21 #[.agg #[.bool a2_0, .int .i64 a2_1, .int .i64 a2_2, .int .i64 a2_3, .int .i64 a2_4, .int .i64 a2_5]] ?_
           with_reducible refine (laws_toState.calls a2_0 a2_1 a2_2 a2_3 a2_4 a2_5 t340 t341 t342 t343 t344 t345 _ A17.out).mono ?_
           rintro e w49 ⟨rfl, hb⟩
           refine ⟨_, rfl, ?_⟩
           have n0_ := Aside0.mk (Kd.R_below (zr HO316) hb)
           have n1_ := Aside0.mk (Kd.R_below (zr HO334) hb)
           replace BK305 := zb BK305 hb
           replace BK306 := zb BK306 hb
           replace BK307 := zb BK307 hb
           replace BK331 := zb BK331 hb
           replace BK354 := zb BK354 hb
           replace HB := zB HB hb
           clear HO316 HO334
           have HO316 := n0_
           have HO334 := n1_
           clear n0_ n1_
           (try clear hb)
           refine hK.out _ _ ⟨zc BK305 0, zc BK305 1, zc BK305 2, zc BK305 3, zc BK305 4, zc BK306 0, zc BK306 1, zc BK306 2, zc BK306 3, zc BK306 4, zc BK306 5, zc BK307 0, zc BK307 1⟩ (fun hHeld => ?_)
           clear hK K
           refine zn 33 ?_
           exact norm_ (by first | (simp only [putAll, Act.put, List.setIfInBounds_toArray, List.set_cons_zero, List.set_cons_succ]; done) | (simp only [putAll, Act.put, List.setIfInBounds_toArray, List.set_cons_zero, List.set_cons_succ]; rfl)) (hJ1_4_8 (gb354) _ ⟨hHeld, (zr HO316), (zr HO334), (zy BK305), (zy BK306), (zy BK307), (zy BK331), (zy BK354), GW354.out, GE354.out, NB305_354.out, NB354_305.out, NB306_354.out, NB354_306.out, NB307_354.out, NB354_307.out, NB331_354.out, NB354_331.out, (by repeat (first | (with_reducible first | exact HB.out | apply below_alloc | apply pw_below_drewN | apply below_drew1 | refine below_set ?_ GE305.out | refine below_set ?_ GE306.out | refine below_set ?_ GE307.out | refine below_set ?_ GE331.out | refine below_set ?_ GE354.out) | exact HB.out))⟩)
         ·skip
          rintro _ w48 ⟨hS_, h0_, h1_, h2_, h3_, h4_, h5_, h6_⟩
          have n0_ : Aside0 (Kd.R k37 37 w48 w.heap.size (fun k_ => some k_ ≠ (.slice Ao44 t332.length co44 : Value).ownBlock) v315 t314) := ⟨h0_⟩
          have n1_ : Aside0 (Kd.R k37 37 w48 w.heap.size (fun k_ => some k_ ≠ (v315 : Value).ownBlock) (.slice Ao44 t332.length co44) t332) := ⟨h1_⟩
          have n2_ : Aside0 (w48.heap[gb305]? = some (.cells #[.int .i64 a0_0, .int .i64 a0_1, .int .i64 a0_2, .int .i64 a0_3, .int .i64 a0_4] 39 (0, 0))) := ⟨h2_⟩
          have n3_ : Aside0 (w48.heap[gb306]? = some (.cells #[.bool a2_0, .int .i64 a2_1, .int .i64 a2_2, .int .i64 a2_3, .int .i64 a2_4, .int .i64 a2_5] 43 (0, 0))) := ⟨h3_⟩
          have n4_ : Aside0 (w48.heap[gb307]? = some (.cells #[.int .i64 a3_0, .int .i64 a3_1] 44 (0, 0))) := ⟨h4_⟩
          have n5_ : Aside0 (w48.heap[gb331]? = some (.cells #[.bool t325, .int .i64 t326, .int .i64 t327, .int .i64 t328, .int .i64 t329, .int .i64 t330] 29 (0, 0))) := ⟨h5_⟩
          have n6_ : Aside0 (Below w.heap.size w w48) := ⟨h6_⟩
          clear HO316 HO334 BK305 BK306 BK307 BK331 HB h0_ h1_ h2_ h3_ h4_ h5_ h6_
          have HO316 := n0_
          have HO334 := n1_
          have BK305 := n2_
          have BK306 := n3_
          have BK307 := n4_
          have BK331 := n5_
          have HB := n6_
          clear n0_ n1_ n2_ n3_ n4_ n5_ n6_
          have hHeld : w48.cell? ⟨gb305, 0, none⟩ = some (.int .i64 a0_0) ∧ w48.cell? ⟨gb305, 1, none⟩ = some (.int .i64 a0_1) ∧ w48.cell? ⟨gb305, 2, none⟩ = some (.int .i64 a0_2) ∧ w48.cell? ⟨gb305, 3, none⟩ = some (.int .i64 a0_3) ∧ w48.cell? ⟨gb305, 4, none⟩ = some (.int .i64 a0_4) ∧ w48.cell? ⟨gb306, 0, none⟩ = some (.bool a2_0) ∧ w48.cell? ⟨gb306, 1, none⟩ = some (.int .i64 a2_1) ∧ w48.cell? ⟨gb306, 2, none⟩ = some (.int .i64 a2_2) ∧ w48.cell? ⟨gb306, 3, none⟩ = some (.int .i64 a2_3) ∧ w48.cell? ⟨gb306, 4, none⟩ = some (.int .i64 a2_4) ∧ w48.cell? ⟨gb306, 5, none⟩ = some (.int .i64 a2_5) ∧ w48.cell? ⟨gb307, 0, none⟩ = some (.int .i64 a3_0) ∧ w48.cell? ⟨gb307, 1, none⟩ = some (.int .i64 a3_1) := hS_
          refine norm_ (a' := ?_) ?_ ?_
          rotate_left
          ·simp only [putAll, Act.put, List.setIfInBounds_toArray, List.set_cons_zero, List.set_cons_succ]
           rfl
          refine two_ (i := 6) (j := 8) (Ni := some 35) (Nj := some 12) #[true, true, true, true, true, true, true, false, false, false] #[true, true, true, true, true, true, false, false, true, false] rfl rfl rfl rfl (two_of HT_.out (by kernel_rfl)) (by decide) (by decide) (fun K hK => ?_) (fun K hK => ?_)
          ·skip
           refine zG Try.func22 #[.agg #[.int .i64 a3_0, .int .i64 a3_1]] ?_
           with_reducible refine (laws_toEvent.calls a3_0 a3_1 t346 t347 _ A18.out).mono ?_
           rintro e w49 ⟨rfl, hb⟩
           refine ⟨_, rfl, ?_⟩
           have n0_ := Aside0.mk (Kd.R_below (zr HO316) hb)
           have n1_ := Aside0.mk (Kd.R_below (zr HO334) hb)
           replace BK305 := zb BK305 hb
           replace BK306 := zb BK306 hb
           replace BK307 := zb BK307 hb
           replace BK331 := zb BK331 hb
           replace HB := zB HB hb
           clear HO316 HO334
           have HO316 := n0_
           have HO334 := n1_
           clear n0_ n1_
           (try clear hb)
           refine hK.out _ _ ⟨zc BK305 0, zc BK305 1, zc BK305 2, zc BK305 3, zc BK305 4, zc BK306 0, zc BK306 1, zc BK306 2, zc BK306 3, zc BK306 4, zc BK306 5, zc BK307 0, zc BK307 1⟩ (fun hHeld => ?_)
           clear hK K
           refine zn 35 ?_
           exact norm_ (by first | (simp only [putAll, Act.put, List.setIfInBounds_toArray, List.set_cons_zero, List.set_cons_succ]; done) | (simp only [putAll, Act.put, List.setIfInBounds_toArray, List.set_cons_zero, List.set_cons_succ]; rfl)) (hJ1_4_6 () _ ⟨hHeld, (zr HO316), (zr HO334), (zy BK305), (zy BK306), (zy BK307), (zy BK331), (by repeat (first | (with_reducible first | exact HB.out | apply below_alloc | apply pw_below_drewN | apply below_drew1 | refine below_set ?_ GE305.out | refine below_set ?_ GE306.out | refine below_set ?_ GE307.out | refine below_set ?_ GE331.out) | exact HB.out))⟩)
          ·skip
           refine box_step ?hg (N := 12) ?hd (cs := #[.bool false, .int .i64 0, .int .i64 0, .int .i64 0, .int .i64 0, .int .i64 0]) (t := 29) ?hr ?_; (case hd => rfl); (case hg => rfl); (case hr => first | (go_simp; done) | (go_simp; rfl))
           intro gb354 hg w49 hbox hb
           have n0_ := Aside0.mk (Kd.R_below (zr HO316) hb)
           have n1_ := Aside0.mk (Kd.R_below (zr HO334) hb)
           have BK354 := Aside0.mk (hbox)
           have GW354 := zge HB hg
           have GE354 := GW354
           have NB305_354 := zl BK305 hg
           have NB354_305 := zg BK305 hg
           have NB306_354 := zl BK306 hg
           have NB354_306 := zg BK306 hg
           have NB307_354 := zl BK307 hg
           have NB354_307 := zg BK307 hg
           have NB331_354 := zl BK331 hg
           have NB354_331 := zg BK331 hg
           replace BK305 := zb BK305 hb
           replace BK306 := zb BK306 hb
           replace BK307 := zb BK307 hb
           replace BK331 := zb BK331 hb
           replace HB := zB HB hb
           clear HO316 HO334
           have HO316 := n0_
           have HO334 := n1_
           clear n0_ n1_ hb hbox hg
           refine hK.out _ _ ⟨zc BK305 0, zc BK305 1, zc BK305 2, zc BK305 3, zc BK305 4, zc BK306 0, zc BK306 1, zc BK306 2, zc BK306 3, zc BK306 4, zc BK306 5, zc BK307 0, zc BK307 1⟩ (fun hHeld => ?_)
           clear hK K
           refine zn 12 ?_
           exact norm_ (by first | (simp only [putAll, Act.put, List.setIfInBounds_toArray, List.set_cons_zero, List.set_cons_succ]; done) | (simp only [putAll, Act.put, List.setIfInBounds_toArray, List.set_cons_zero, List.set_cons_succ]; rfl)) (hJ1_4_8 (gb354) _ ⟨hHeld, (zr HO316), (zr HO334), (zy BK305), (zy BK306), (zy BK307), (zy BK331), (zy BK354), GW354.out, GE354.out, NB305_354.out, NB354_305.out, NB306_354.out, NB354_306.out, NB307_354.out, NB354_307.out, NB331_354.out, NB354_331.out, (by repeat (first | (with_reducible first | exact HB.out | apply below_alloc | apply pw_below_drewN | apply below_drew1 | refine below_set ?_ GE305.out | refine below_set ?_ GE306.out | refine below_set ?_ GE307.out | refine below_set ?_ GE331.out | refine below_set ?_ GE354.out) | exact HB.out))⟩)
        ·skip
         rintro gb354 w49 ⟨hS_, h0_, h1_, h2_, h3_, h4_, h5_, h6_, h7_, h8_, h9_, h10_, h11_, h12_, h13_, h14_, h15_, h16_, h17_⟩
         have n0_ : Aside0 (Kd.R k37 37 w49 w.heap.size (fun k_ => some k_ ≠ (.slice Ao44 t332.length co44 : Value).ownBlock) v315 t314) := ⟨h0_⟩
         have n1_ : Aside0 (Kd.R k37 37 w49 w.heap.size (fun k_ => some k_ ≠ (v315 : Value).ownBlock) (.slice Ao44 t332.length co44) t332) := ⟨h1_⟩
         have n2_ : Aside0 (w49.heap[gb305]? = some (.cells #[.int .i64 a0_0, .int .i64 a0_1, .int .i64 a0_2, .int .i64 a0_3, .int .i64 a0_4] 39 (0, 0))) := ⟨h2_⟩
         have n3_ : Aside0 (w49.heap[gb306]? = some (.cells #[.bool a2_0, .int .i64 a2_1, .int .i64 a2_2, .int .i64 a2_3, .int .i64 a2_4, .int .i64 a2_5] 43 (0, 0))) := ⟨h3_⟩
         have n4_ : Aside0 (w49.heap[gb307]? = some (.cells #[.int .i64 a3_0, .int .i64 a3_1] 44 (0, 0))) := ⟨h4_⟩
         have n5_ : Aside0 (w49.heap[gb331]? = some (.cells #[.bool t325, .int .i64 t326, .int .i64 t327, .int .i64 t328, .int .i64 t329, .int .i64 t330] 29 (0, 0))) := ⟨h5_⟩
         have n6_ : Aside0 (w49.heap[gb354]? = some (.cells #[.bool false, .int .i64 0, .int .i64 0, .int .i64 0, .int .i64 0, .int .i64 0] 29 (0, 0))) := ⟨h6_⟩
         have n7_ : Aside0 (w.heap.size ≤ gb354) := ⟨h7_⟩
         have n8_ : Aside0 (w.heap.size ≤ gb354) := ⟨h8_⟩
         have n9_ : Aside0 (gb305 ≠ gb354) := ⟨h9_⟩
         have n10_ : Aside0 (gb354 ≠ gb305) := ⟨h10_⟩
         have n11_ : Aside0 (gb306 ≠ gb354) := ⟨h11_⟩
         have n12_ : Aside0 (gb354 ≠ gb306) := ⟨h12_⟩
         have n13_ : Aside0 (gb307 ≠ gb354) := ⟨h13_⟩
         have n14_ : Aside0 (gb354 ≠ gb307) := ⟨h14_⟩
         have n15_ : Aside0 (gb331 ≠ gb354) := ⟨h15_⟩
         have n16_ : Aside0 (gb354 ≠ gb331) := ⟨h16_⟩
         have n17_ : Aside0 (Below w.heap.size w w49) := ⟨h17_⟩
         clear HO316 HO334 BK305 BK306 BK307 BK331 HB h0_ h1_ h2_ h3_ h4_ h5_ h6_ h7_ h8_ h9_ h10_ h11_ h12_ h13_ h14_ h15_ h16_ h17_
         have HO316 := n0_
         have HO334 := n1_
         have BK305 := n2_
         have BK306 := n3_
         have BK307 := n4_
         have BK331 := n5_
         have BK354 := n6_
         have GW354 := n7_
         have GE354 := n8_
         have NB305_354 := n9_
         have NB354_305 := n10_
         have NB306_354 := n11_
         have NB354_306 := n12_
         have NB307_354 := n13_
         have NB354_307 := n14_
         have NB331_354 := n15_
         have NB354_331 := n16_
         have HB := n17_
         clear n0_ n1_ n2_ n3_ n4_ n5_ n6_ n7_ n8_ n9_ n10_ n11_ n12_ n13_ n14_ n15_ n16_ n17_
         have hHeld : w49.cell? ⟨gb305, 0, none⟩ = some (.int .i64 a0_0) ∧ w49.cell? ⟨gb305, 1, none⟩ = some (.int .i64 a0_1) ∧ w49.cell? ⟨gb305, 2, none⟩ = some (.int .i64 a0_2) ∧ w49.cell? ⟨gb305, 3, none⟩ = some (.int .i64 a0_3) ∧ w49.cell? ⟨gb305, 4, none⟩ = some (.int .i64 a0_4) ∧ w49.cell? ⟨gb306, 0, none⟩ = some (.bool a2_0) ∧ w49.cell? ⟨gb306, 1, none⟩ = some (.int .i64 a2_1) ∧ w49.cell? ⟨gb306, 2, none⟩ = some (.int .i64 a2_2) ∧ w49.cell? ⟨gb306, 3, none⟩ = some (.int .i64 a2_3) ∧ w49.cell? ⟨gb306, 4, none⟩ = some (.int .i64 a2_4) ∧ w49.cell? ⟨gb306, 5, none⟩ = some (.int .i64 a2_5) ∧ w49.cell? ⟨gb307, 0, none⟩ = some (.int .i64 a3_0) ∧ w49.cell? ⟨gb307, 1, none⟩ = some (.int .i64 a3_1) := hS_
         refine norm_ (a' := ?_) ?_ ?_
         rotate_left
         ·simp only [putAll, Act.put, List.setIfInBounds_toArray, List.set_cons_zero, List.set_cons_succ]
          rfl
         refine zo 6 (some 35) (zm 10 383) HT_ (fun K hK => ?_)
         refine zG Try.func22 #[.agg #[.int .i64 a3_0, .int .i64 a3_1]] ?_
         with_reducible refine (laws_toEvent.calls a3_0 a3_1 t346 t347 _ A18.out).mono ?_
         rintro e w50 ⟨rfl, hb⟩
         refine ⟨_, rfl, ?_⟩
         have n0_ := Aside0.mk (Kd.R_below (zr HO316) hb)
         have n1_ := Aside0.mk (Kd.R_below (zr HO334) hb)
         replace BK305 := zb BK305 hb
         replace BK306 := zb BK306 hb
         replace BK307 := zb BK307 hb
         replace BK331 := zb BK331 hb
         replace BK354 := zb BK354 hb
         replace HB := zB HB hb
         clear HO316 HO334
         have HO316 := n0_
         have HO334 := n1_
         clear n0_ n1_
         (try clear hb)
         refine hK.out _ _ ⟨zc BK305 0, zc BK305 1, zc BK305 2, zc BK305 3, zc BK305 4, zc BK306 0, zc BK306 1, zc BK306 2, zc BK306 3, zc BK306 4, zc BK306 5, zc BK307 0, zc BK307 1⟩ (fun hHeld => ?_)
         clear hK K
         refine zn 35 ?_
         exact norm_ (by first | (simp only [putAll, Act.put, List.setIfInBounds_toArray, List.set_cons_zero, List.set_cons_succ]; done) | (simp only [putAll, Act.put, List.setIfInBounds_toArray, List.set_cons_zero, List.set_cons_succ]; rfl)) (hJ1_4_6_8 (gb354) _ ⟨hHeld, (zr HO316), (zr HO334), (zy BK305), (zy BK306), (zy BK307), (zy BK331), (zy BK354), GW354.out, GE354.out, NB305_354.out, NB354_305.out, NB306_354.out, NB354_306.out, NB307_354.out, NB354_307.out, NB331_354.out, NB354_331.out, (by repeat (first | (with_reducible first | exact HB.out | apply below_alloc | apply pw_below_drewN | apply below_drew1 | refine below_set ?_ GE305.out | refine below_set ?_ GE306.out | refine below_set ?_ GE307.out | refine below_set ?_ GE331.out | refine below_set ?_ GE354.out) | exact HB.out))⟩)
       ·skip
        rintro _ w49 ⟨hS_, h0_, h1_, h2_, h3_, h4_, h5_, h6_⟩
        have n0_ : Aside0 (Kd.R k37 37 w49 w.heap.size (fun k_ => some k_ ≠ (.slice Ao44 t332.length co44 : Value).ownBlock) v315 t314) := ⟨h0_⟩
        have n1_ : Aside0 (Kd.R k37 37 w49 w.heap.size (fun k_ => some k_ ≠ (v315 : Value).ownBlock) (.slice Ao44 t332.length co44) t332) := ⟨h1_⟩
        have n2_ : Aside0 (w49.heap[gb305]? = some (.cells #[.int .i64 a0_0, .int .i64 a0_1, .int .i64 a0_2, .int .i64 a0_3, .int .i64 a0_4] 39 (0, 0))) := ⟨h2_⟩
        have n3_ : Aside0 (w49.heap[gb306]? = some (.cells #[.bool a2_0, .int .i64 a2_1, .int .i64 a2_2, .int .i64 a2_3, .int .i64 a2_4, .int .i64 a2_5] 43 (0, 0))) := ⟨h3_⟩
        have n4_ : Aside0 (w49.heap[gb307]? = some (.cells #[.int .i64 a3_0, .int .i64 a3_1] 44 (0, 0))) := ⟨h4_⟩
        have n5_ : Aside0 (w49.heap[gb331]? = some (.cells #[.bool t325, .int .i64 t326, .int .i64 t327, .int .i64 t328, .int .i64 t329, .int .i64 t330] 29 (0, 0))) := ⟨h5_⟩
        have n6_ : Aside0 (Below w.heap.size w w49) := ⟨h6_⟩
        clear HO316 HO334 BK305 BK306 BK307 BK331 HB h0_ h1_ h2_ h3_ h4_ h5_ h6_
        have HO316 := n0_
        have HO334 := n1_
        have BK305 := n2_
        have BK306 := n3_
        have BK307 := n4_
        have BK331 := n5_
        have HB := n6_
        clear n0_ n1_ n2_ n3_ n4_ n5_ n6_
        have hHeld : w49.cell? ⟨gb305, 0, none⟩ = some (.int .i64 a0_0) ∧ w49.cell? ⟨gb305, 1, none⟩ = some (.int .i64 a0_1) ∧ w49.cell? ⟨gb305, 2, none⟩ = some (.int .i64 a0_2) ∧ w49.cell? ⟨gb305, 3, none⟩ = some (.int .i64 a0_3) ∧ w49.cell? ⟨gb305, 4, none⟩ = some (.int .i64 a0_4) ∧ w49.cell? ⟨gb306, 0, none⟩ = some (.bool a2_0) ∧ w49.cell? ⟨gb306, 1, none⟩ = some (.int .i64 a2_1) ∧ w49.cell? ⟨gb306, 2, none⟩ = some (.int .i64 a2_2) ∧ w49.cell? ⟨gb306, 3, none⟩ = some (.int .i64 a2_3) ∧ w49.cell? ⟨gb306, 4, none⟩ = some (.int .i64 a2_4) ∧ w49.cell? ⟨gb306, 5, none⟩ = some (.int .i64 a2_5) ∧ w49.cell? ⟨gb307, 0, none⟩ = some (.int .i64 a3_0) ∧ w49.cell? ⟨gb307, 1, none⟩ = some (.int .i64 a3_1) := hS_
        refine norm_ (a' := ?_) ?_ ?_
        rotate_left
        ·simp only [putAll, Act.put, List.setIfInBounds_toArray, List.set_cons_zero, List.set_cons_succ]
         rfl
        refine two_ (i := 7) (j := 8) (Ni := some 36) (Nj := some 12) #[true, true, true, true, true, true, true, true, false, false] #[true, true, true, true, true, true, true, false, true, false] rfl rfl rfl rfl (two_of HT_.out (by kernel_rfl)) (by decide) (by decide) (fun K hK => ?_) (fun K hK => ?_)
        ·skip
         refine zG Try.func15 #[.agg #[.int .i64 t335, .int .i64 t336, .int .i64 t337, .int .i64 t338, .int .i64 t339], .slice Ao44 t332.length co44, .agg #[.bool t340, .int .i64 t341, .int .i64 t342, .int .i64 t343, .int .i64 t344, .int .i64 t345], .agg #[.int .i64 t346, .int .i64 t347]] ?_
         with_reducible refine (impl_Do.calls k t335 t336 t337 t338 t339 _ _ t332 t340 t341 t342 t343 t344 t345 t346 t347 t348 t349 t350 t351 t352 t353 _ ?side1 ?side2 A19.out).mono ?_
         (case side1 => repeat (first | exact (Kd.R_reads' HO334.out).2.2 | (with_reducible refine Kd.C_alloc ?_ _) | (with_reducible refine Kd.C_drewN ?_ _) | (with_reducible refine Kd.C_drew ?_)))
         (case side2 => exact (Kd.R_reads' HO334.out).2.1)
         rintro e w50 ⟨rfl, hb⟩
         refine ⟨_, rfl, ?_⟩
         have n0_ := Aside0.mk (Kd.R_below (zr HO316) hb)
         have n1_ := Aside0.mk (Kd.R_below (zr HO334) hb)
         replace BK305 := zb BK305 hb
         replace BK306 := zb BK306 hb
         replace BK307 := zb BK307 hb
         replace BK331 := zb BK331 hb
         replace HB := zB HB hb
         clear HO316 HO334
         have HO316 := n0_
         have HO334 := n1_
         clear n0_ n1_
         (try clear hb)
         refine hK.out _ _ ⟨zc BK305 0, zc BK305 1, zc BK305 2, zc BK305 3, zc BK305 4, zc BK306 0, zc BK306 1, zc BK306 2, zc BK306 3, zc BK306 4, zc BK306 5, zc BK307 0, zc BK307 1⟩ (fun hHeld => ?_)
         clear hK K
         refine zn 36 ?_
         exact norm_ (by first | (simp only [putAll, Act.put, List.setIfInBounds_toArray, List.set_cons_zero, List.set_cons_succ]; done) | (simp only [putAll, Act.put, List.setIfInBounds_toArray, List.set_cons_zero, List.set_cons_succ]; rfl)) (hJ1_4_6_7 () _ ⟨hHeld, (zr HO316), (zr HO334), (zy BK305), (zy BK306), (zy BK307), (zy BK331), (by repeat (first | (with_reducible first | exact HB.out | apply below_alloc | apply pw_below_drewN | apply below_drew1 | refine below_set ?_ GE305.out | refine below_set ?_ GE306.out | refine below_set ?_ GE307.out | refine below_set ?_ GE331.out) | exact HB.out))⟩)
        ·skip
         refine box_step ?hg (N := 12) ?hd (cs := #[.bool false, .int .i64 0, .int .i64 0, .int .i64 0, .int .i64 0, .int .i64 0]) (t := 29) ?hr ?_; (case hd => rfl); (case hg => rfl); (case hr => first | (go_simp; done) | (go_simp; rfl))
         intro gb354 hg w50 hbox hb
         have n0_ := Aside0.mk (Kd.R_below (zr HO316) hb)
         have n1_ := Aside0.mk (Kd.R_below (zr HO334) hb)
         have BK354 := Aside0.mk (hbox)
         have GW354 := zge HB hg
         have GE354 := GW354
         have NB305_354 := zl BK305 hg
         have NB354_305 := zg BK305 hg
         have NB306_354 := zl BK306 hg
         have NB354_306 := zg BK306 hg
         have NB307_354 := zl BK307 hg
         have NB354_307 := zg BK307 hg
         have NB331_354 := zl BK331 hg
         have NB354_331 := zg BK331 hg
         replace BK305 := zb BK305 hb
         replace BK306 := zb BK306 hb
         replace BK307 := zb BK307 hb
         replace BK331 := zb BK331 hb
         replace HB := zB HB hb
         clear HO316 HO334
         have HO316 := n0_
         have HO334 := n1_
         clear n0_ n1_ hb hbox hg
         refine hK.out _ _ ⟨zc BK305 0, zc BK305 1, zc BK305 2, zc BK305 3, zc BK305 4, zc BK306 0, zc BK306 1, zc BK306 2, zc BK306 3, zc BK306 4, zc BK306 5, zc BK307 0, zc BK307 1⟩ (fun hHeld => ?_)
         clear hK K
         refine zn 12 ?_
         exact norm_ (by first | (simp only [putAll, Act.put, List.setIfInBounds_toArray, List.set_cons_zero, List.set_cons_succ]; done) | (simp only [putAll, Act.put, List.setIfInBounds_toArray, List.set_cons_zero, List.set_cons_succ]; rfl)) (hJ1_4_6_8 (gb354) _ ⟨hHeld, (zr HO316), (zr HO334), (zy BK305), (zy BK306), (zy BK307), (zy BK331), (zy BK354), GW354.out, GE354.out, NB305_354.out, NB354_305.out, NB306_354.out, NB354_306.out, NB307_354.out, NB354_307.out, NB331_354.out, NB354_331.out, (by repeat (first | (with_reducible first | exact HB.out | apply below_alloc | apply pw_below_drewN | apply below_drew1 | refine below_set ?_ GE305.out | refine below_set ?_ GE306.out | refine below_set ?_ GE307.out | refine below_set ?_ GE331.out | refine below_set ?_ GE354.out) | exact HB.out))⟩)
      ·skip
       rintro gb354 w50 ⟨hS_, h0_, h1_, h2_, h3_, h4_, h5_, h6_, h7_, h8_, h9_, h10_, h11_, h12_, h13_, h14_, h15_, h16_, h17_⟩
       have n0_ : Aside0 (Kd.R k37 37 w50 w.heap.size (fun k_ => some k_ ≠ (.slice Ao44 t332.length co44 : Value).ownBlock) v315 t314) := ⟨h0_⟩
       have n1_ : Aside0 (Kd.R k37 37 w50 w.heap.size (fun k_ => some k_ ≠ (v315 : Value).ownBlock) (.slice Ao44 t332.length co44) t332) := ⟨h1_⟩
       have n2_ : Aside0 (w50.heap[gb305]? = some (.cells #[.int .i64 a0_0, .int .i64 a0_1, .int .i64 a0_2, .int .i64 a0_3, .int .i64 a0_4] 39 (0, 0))) := ⟨h2_⟩
       have n3_ : Aside0 (w50.heap[gb306]? = some (.cells #[.bool a2_0, .int .i64 a2_1, .int .i64 a2_2, .int .i64 a2_3, .int .i64 a2_4, .int .i64 a2_5] 43 (0, 0))) := ⟨h3_⟩
       have n4_ : Aside0 (w50.heap[gb307]? = some (.cells #[.int .i64 a3_0, .int .i64 a3_1] 44 (0, 0))) := ⟨h4_⟩
       have n5_ : Aside0 (w50.heap[gb331]? = some (.cells #[.bool t325, .int .i64 t326, .int .i64 t327, .int .i64 t328, .int .i64 t329, .int .i64 t330] 29 (0, 0))) := ⟨h5_⟩
       have n6_ : Aside0 (w50.heap[gb354]? = some (.cells #[.bool false, .int .i64 0, .int .i64 0, .int .i64 0, .int .i64 0, .int .i64 0] 29 (0, 0))) := ⟨h6_⟩
       have n7_ : Aside0 (w.heap.size ≤ gb354) := ⟨h7_⟩
       have n8_ : Aside0 (w.heap.size ≤ gb354) := ⟨h8_⟩
       have n9_ : Aside0 (gb305 ≠ gb354) := ⟨h9_⟩
       have n10_ : Aside0 (gb354 ≠ gb305) := ⟨h10_⟩
       have n11_ : Aside0 (gb306 ≠ gb354) := ⟨h11_⟩
       have n12_ : Aside0 (gb354 ≠ gb306) := ⟨h12_⟩
       have n13_ : Aside0 (gb307 ≠ gb354) := ⟨h13_⟩
       have n14_ : Aside0 (gb354 ≠ gb307) := ⟨h14_⟩
       have n15_ : Aside0 (gb331 ≠ gb354) := ⟨h15_⟩
       have n16_ : Aside0 (gb354 ≠ gb331) := ⟨h16_⟩
       have n17_ : Aside0 (Below w.heap.size w w50) := ⟨h17_⟩
       clear HO316 HO334 BK305 BK306 BK307 BK331 HB h0_ h1_ h2_ h3_ h4_ h5_ h6_ h7_ h8_ h9_ h10_ h11_ h12_ h13_ h14_ h15_ h16_ h17_
       have HO316 := n0_
       have HO334 := n1_
       have BK305 := n2_
       have BK306 := n3_
       have BK307 := n4_
       have BK331 := n5_
       have BK354 := n6_
       have GW354 := n7_
       have GE354 := n8_
       have NB305_354 := n9_
       have NB354_305 := n10_
       have NB306_354 := n11_
       have NB354_306 := n12_
       have NB307_354 := n13_
       have NB354_307 := n14_
       have NB331_354 := n15_
       have NB354_331 := n16_
       have HB := n17_
       clear n0_ n1_ n2_ n3_ n4_ n5_ n6_ n7_ n8_ n9_ n10_ n11_ n12_ n13_ n14_ n15_ n16_ n17_
       have hHeld : w50.cell? ⟨gb305, 0, none⟩ = some (.int .i64 a0_0) ∧ w50.cell? ⟨gb305, 1, none⟩ = some (.int .i64 a0_1) ∧ w50.cell? ⟨gb305, 2, none⟩ = some (.int .i64 a0_2) ∧ w50.cell? ⟨gb305, 3, none⟩ = some (.int .i64 a0_3) ∧ w50.cell? ⟨gb305, 4, none⟩ = some (.int .i64 a0_4) ∧ w50.cell? ⟨gb306, 0, none⟩ = some (.bool a2_0) ∧ w50.cell? ⟨gb306, 1, none⟩ = some (.int .i64 a2_1) ∧ w50.cell? ⟨gb306, 2, none⟩ = some (.int .i64 a2_2) ∧ w50.cell? ⟨gb306, 3, none⟩ = some (.int .i64 a2_3) ∧ w50.cell? ⟨gb306, 4, none⟩ = some (.int .i64 a2_4) ∧ w50.cell? ⟨gb306, 5, none⟩ = some (.int .i64 a2_5) ∧ w50.cell? ⟨gb307, 0, none⟩ = some (.int .i64 a3_0) ∧ w50.cell? ⟨gb307, 1, none⟩ = some (.int .i64 a3_1) := hS_
       refine norm_ (a' := ?_) ?_ ?_
       rotate_left
       ·simp only [putAll, Act.put, List.setIfInBounds_toArray, List.set_cons_zero, List.set_cons_succ]
        rfl
       refine zo 7 (some 36) (zm 10 511) HT_ (fun K hK => ?_)
       refine zG Try.func15 #[.agg #[.int .i64 t335, .int .i64 t336, .int .i64 t337, .int .i64 t338, .int .i64 t339], .slice Ao44 t332.length co44, .agg #[.bool t340, .int .i64 t341, .int .i64 t342, .int .i64 t343, .int .i64 t344, .int .i64 t345], .agg #[.int .i64 t346, .int .i64 t347]] ?_
       with_reducible refine (impl_Do.calls k t335 t336 t337 t338 t339 _ _ t332 t340 t341 t342 t343 t344 t345 t346 t347 t348 t349 t350 t351 t352 t353 _ ?side1 ?side2 A19.out).mono ?_
       (case side1 => repeat (first | exact (Kd.R_reads' HO334.out).2.2 | (with_reducible refine Kd.C_alloc ?_ _) | (with_reducible refine Kd.C_drewN ?_ _) | (with_reducible refine Kd.C_drew ?_)))
       (case side2 => exact (Kd.R_reads' HO334.out).2.1)
       rintro e w51 ⟨rfl, hb⟩
       refine ⟨_, rfl, ?_⟩
       have n0_ := Aside0.mk (Kd.R_below (zr HO316) hb)
       have n1_ := Aside0.mk (Kd.R_below (zr HO334) hb)
       replace BK305 := zb BK305 hb
       replace BK306 := zb BK306 hb
       replace BK307 := zb BK307 hb
       replace BK331 := zb BK331 hb
       replace BK354 := zb BK354 hb
       replace HB := zB HB hb
       clear HO316 HO334
       have HO316 := n0_
       have HO334 := n1_
       clear n0_ n1_
       (try clear hb)
       refine hK.out _ _ ⟨zc BK305 0, zc BK305 1, zc BK305 2, zc BK305 3, zc BK305 4, zc BK306 0, zc BK306 1, zc BK306 2, zc BK306 3, zc BK306 4, zc BK306 5, zc BK307 0, zc BK307 1⟩ (fun hHeld => ?_)
       clear hK K
       refine zn 36 ?_
       exact norm_ (by first | (simp only [putAll, Act.put, List.setIfInBounds_toArray, List.set_cons_zero, List.set_cons_succ]; done) | (simp only [putAll, Act.put, List.setIfInBounds_toArray, List.set_cons_zero, List.set_cons_succ]; rfl)) (hJ1_4_6_7_8 (gb354) _ ⟨hHeld, (zr HO316), (zr HO334), (zy BK305), (zy BK306), (zy BK307), (zy BK331), (zy BK354), GW354.out, GE354.out, NB305_354.out, NB354_305.out, NB306_354.out, NB354_306.out, NB307_354.out, NB354_307.out, NB331_354.out, NB354_331.out, (by repeat (first | (with_reducible first | exact HB.out | apply below_alloc | apply pw_below_drewN | apply below_drew1 | refine below_set ?_ GE305.out | refine below_set ?_ GE306.out | refine below_set ?_ GE307.out | refine below_set ?_ GE331.out | refine below_set ?_ GE354.out) | exact HB.out))⟩)
     ·skip
      rintro _ w50 ⟨hS_, h0_, h1_, h2_, h3_, h4_, h5_, h6_⟩
      have n0_ : Aside0 (Kd.R k37 37 w50 w.heap.size (fun k_ => some k_ ≠ (.slice Ao44 t332.length co44 : Value).ownBlock) v315 t314) := ⟨h0_⟩
      have n1_ : Aside0 (Kd.R k37 37 w50 w.heap.size (fun k_ => some k_ ≠ (v315 : Value).ownBlock) (.slice Ao44 t332.length co44) t332) := ⟨h1_⟩
      have n2_ : Aside0 (w50.heap[gb305]? = some (.cells #[.int .i64 a0_0, .int .i64 a0_1, .int .i64 a0_2, .int .i64 a0_3, .int .i64 a0_4] 39 (0, 0))) := ⟨h2_⟩
      have n3_ : Aside0 (w50.heap[gb306]? = some (.cells #[.bool a2_0, .int .i64 a2_1, .int .i64 a2_2, .int .i64 a2_3, .int .i64 a2_4, .int .i64 a2_5] 43 (0, 0))) := ⟨h3_⟩
      have n4_ : Aside0 (w50.heap[gb307]? = some (.cells #[.int .i64 a3_0, .int .i64 a3_1] 44 (0, 0))) := ⟨h4_⟩
      have n5_ : Aside0 (w50.heap[gb331]? = some (.cells #[.bool t325, .int .i64 t326, .int .i64 t327, .int .i64 t328, .int .i64 t329, .int .i64 t330] 29 (0, 0))) := ⟨h5_⟩
      have n6_ : Aside0 (Below w.heap.size w w50) := ⟨h6_⟩
      clear HO316 HO334 BK305 BK306 BK307 BK331 HB h0_ h1_ h2_ h3_ h4_ h5_ h6_
      have HO316 := n0_
      have HO334 := n1_
      have BK305 := n2_
      have BK306 := n3_
      have BK307 := n4_
      have BK331 := n5_
      have HB := n6_
      clear n0_ n1_ n2_ n3_ n4_ n5_ n6_
      have hHeld : w50.cell? ⟨gb305, 0, none⟩ = some (.int .i64 a0_0) ∧ w50.cell? ⟨gb305, 1, none⟩ = some (.int .i64 a0_1) ∧ w50.cell? ⟨gb305, 2, none⟩ = some (.int .i64 a0_2) ∧ w50.cell? ⟨gb305, 3, none⟩ = some (.int .i64 a0_3) ∧ w50.cell? ⟨gb305, 4, none⟩ = some (.int .i64 a0_4) ∧ w50.cell? ⟨gb306, 0, none⟩ = some (.bool a2_0) ∧ w50.cell? ⟨gb306, 1, none⟩ = some (.int .i64 a2_1) ∧ w50.cell? ⟨gb306, 2, none⟩ = some (.int .i64 a2_2) ∧ w50.cell? ⟨gb306, 3, none⟩ = some (.int .i64 a2_3) ∧ w50.cell? ⟨gb306, 4, none⟩ = some (.int .i64 a2_4) ∧ w50.cell? ⟨gb306, 5, none⟩ = some (.int .i64 a2_5) ∧ w50.cell? ⟨gb307, 0, none⟩ = some (.int .i64 a3_0) ∧ w50.cell? ⟨gb307, 1, none⟩ = some (.int .i64 a3_1) := hS_
      refine norm_ (a' := ?_) ?_ ?_
      rotate_left
      ·simp only [putAll, Act.put, List.setIfInBounds_toArray, List.set_cons_zero, List.set_cons_succ]
       rfl
      refine zo 8 (some 12) (zm 10 511) HT_ (fun K hK => ?_)
      refine box_step ?hg (N := 12) ?hd (cs := #[.bool false, .int .i64 0, .int .i64 0, .int .i64 0, .int .i64 0, .int .i64 0]) (t := 29) ?hr ?_; (case hd => rfl); (case hg => rfl); (case hr => first | (go_simp; done) | (go_simp; rfl))
      intro gb354 hg w51 hbox hb
      have n0_ := Aside0.mk (Kd.R_below (zr HO316) hb)
      have n1_ := Aside0.mk (Kd.R_below (zr HO334) hb)
      have BK354 := Aside0.mk (hbox)
      have GW354 := zge HB hg
      have GE354 := GW354
      have NB305_354 := zl BK305 hg
      have NB354_305 := zg BK305 hg
      have NB306_354 := zl BK306 hg
      have NB354_306 := zg BK306 hg
      have NB307_354 := zl BK307 hg
      have NB354_307 := zg BK307 hg
      have NB331_354 := zl BK331 hg
      have NB354_331 := zg BK331 hg
      replace BK305 := zb BK305 hb
      replace BK306 := zb BK306 hb
      replace BK307 := zb BK307 hb
      replace BK331 := zb BK331 hb
      replace HB := zB HB hb
      clear HO316 HO334
      have HO316 := n0_
      have HO334 := n1_
      clear n0_ n1_ hb hbox hg
      refine hK.out _ _ ⟨zc BK305 0, zc BK305 1, zc BK305 2, zc BK305 3, zc BK305 4, zc BK306 0, zc BK306 1, zc BK306 2, zc BK306 3, zc BK306 4, zc BK306 5, zc BK307 0, zc BK307 1⟩ (fun hHeld => ?_)
      clear hK K
      refine zn 12 ?_
      exact norm_ (by first | (simp only [putAll, Act.put, List.setIfInBounds_toArray, List.set_cons_zero, List.set_cons_succ]; done) | (simp only [putAll, Act.put, List.setIfInBounds_toArray, List.set_cons_zero, List.set_cons_succ]; rfl)) (hJ1_4_6_7_8 (gb354) _ ⟨hHeld, (zr HO316), (zr HO334), (zy BK305), (zy BK306), (zy BK307), (zy BK331), (zy BK354), GW354.out, GE354.out, NB305_354.out, NB354_305.out, NB306_354.out, NB354_306.out, NB307_354.out, NB354_307.out, NB331_354.out, NB354_331.out, (by repeat (first | (with_reducible first | exact HB.out | apply below_alloc | apply pw_below_drewN | apply below_drew1 | refine below_set ?_ GE305.out | refine below_set ?_ GE306.out | refine below_set ?_ GE307.out | refine below_set ?_ GE331.out | refine below_set ?_ GE354.out) | exact HB.out))⟩)
    rintro gb354 w51 ⟨hS_, h0_, h1_, h2_, h3_, h4_, h5_, h6_, h7_, h8_, h9_, h10_, h11_, h12_, h13_, h14_, h15_, h16_, h17_⟩
    have n0_ : Aside0 (Kd.R k37 37 w51 w.heap.size (fun k_ => some k_ ≠ (.slice Ao44 t332.length co44 : Value).ownBlock) v315 t314) := ⟨h0_⟩
    have n1_ : Aside0 (Kd.R k37 37 w51 w.heap.size (fun k_ => some k_ ≠ (v315 : Value).ownBlock) (.slice Ao44 t332.length co44) t332) := ⟨h1_⟩
    have n2_ : Aside0 (w51.heap[gb305]? = some (.cells #[.int .i64 a0_0, .int .i64 a0_1, .int .i64 a0_2, .int .i64 a0_3, .int .i64 a0_4] 39 (0, 0))) := ⟨h2_⟩
    have n3_ : Aside0 (w51.heap[gb306]? = some (.cells #[.bool a2_0, .int .i64 a2_1, .int .i64 a2_2, .int .i64 a2_3, .int .i64 a2_4, .int .i64 a2_5] 43 (0, 0))) := ⟨h3_⟩
    have n4_ : Aside0 (w51.heap[gb307]? = some (.cells #[.int .i64 a3_0, .int .i64 a3_1] 44 (0, 0))) := ⟨h4_⟩
    have n5_ : Aside0 (w51.heap[gb331]? = some (.cells #[.bool t325, .int .i64 t326, .int .i64 t327, .int .i64 t328, .int .i64 t329, .int .i64 t330] 29 (0, 0))) := ⟨h5_⟩
    have n6_ : Aside0 (w51.heap[gb354]? = some (.cells #[.bool false, .int .i64 0, .int .i64 0, .int .i64 0, .int .i64 0, .int .i64 0] 29 (0, 0))) := ⟨h6_⟩
    have n7_ : Aside0 (w.heap.size ≤ gb354) := ⟨h7_⟩
    have n8_ : Aside0 (w.heap.size ≤ gb354) := ⟨h8_⟩
    have n9_ : Aside0 (gb305 ≠ gb354) := ⟨h9_⟩
    have n10_ : Aside0 (gb354 ≠ gb305) := ⟨h10_⟩
    have n11_ : Aside0 (gb306 ≠ gb354) := ⟨h11_⟩
    have n12_ : Aside0 (gb354 ≠ gb306) := ⟨h12_⟩
    have n13_ : Aside0 (gb307 ≠ gb354) := ⟨h13_⟩
    have n14_ : Aside0 (gb354 ≠ gb307) := ⟨h14_⟩
    have n15_ : Aside0 (gb331 ≠ gb354) := ⟨h15_⟩
    have n16_ : Aside0 (gb354 ≠ gb331) := ⟨h16_⟩
    have n17_ : Aside0 (Below w.heap.size w w51) := ⟨h17_⟩
    clear HO316 HO334 BK305 BK306 BK307 BK331 HB h0_ h1_ h2_ h3_ h4_ h5_ h6_ h7_ h8_ h9_ h10_ h11_ h12_ h13_ h14_ h15_ h16_ h17_
    have HO316 := n0_
    have HO334 := n1_
    have BK305 := n2_
    have BK306 := n3_
    have BK307 := n4_
    have BK331 := n5_
    have BK354 := n6_
    have GW354 := n7_
    have GE354 := n8_
    have NB305_354 := n9_
    have NB354_305 := n10_
    have NB306_354 := n11_
    have NB354_306 := n12_
    have NB307_354 := n13_
    have NB354_307 := n14_
    have NB331_354 := n15_
    have NB354_331 := n16_
    have HB := n17_
    clear n0_ n1_ n2_ n3_ n4_ n5_ n6_ n7_ n8_ n9_ n10_ n11_ n12_ n13_ n14_ n15_ n16_ n17_
    have hHeld : w51.cell? ⟨gb305, 0, none⟩ = some (.int .i64 a0_0) ∧ w51.cell? ⟨gb305, 1, none⟩ = some (.int .i64 a0_1) ∧ w51.cell? ⟨gb305, 2, none⟩ = some (.int .i64 a0_2) ∧ w51.cell? ⟨gb305, 3, none⟩ = some (.int .i64 a0_3) ∧ w51.cell? ⟨gb305, 4, none⟩ = some (.int .i64 a0_4) ∧ w51.cell? ⟨gb306, 0, none⟩ = some (.bool a2_0) ∧ w51.cell? ⟨gb306, 1, none⟩ = some (.int .i64 a2_1) ∧ w51.cell? ⟨gb306, 2, none⟩ = some (.int .i64 a2_2) ∧ w51.cell? ⟨gb306, 3, none⟩ = some (.int .i64 a2_3) ∧ w51.cell? ⟨gb306, 4, none⟩ = some (.int .i64 a2_4) ∧ w51.cell? ⟨gb306, 5, none⟩ = some (.int .i64 a2_5) ∧ w51.cell? ⟨gb307, 0, none⟩ = some (.int .i64 a3_0) ∧ w51.cell? ⟨gb307, 1, none⟩ = some (.int .i64 a3_1) := hS_
    refine norm_ (a' := ?_) ?_ ?_
    rotate_left
    ·simp only [putAll, Act.put, List.setIfInBounds_toArray, List.set_cons_zero, List.set_cons_succ]
     rfl
    refine zo 9 (none) (zm 10 1023) HT_ (fun K hK => ?_)
    have hs52 : w51.cell? ⟨gb354, 0, none⟩ = some (.bool false) := zc BK354 0
    have hfs52 := blk_frozen BK354.out 0
    have hns52_0 := NB305_354.out
    have hns52_1 := NB306_354.out
    have hns52_2 := NB307_354.out
    have hns52_3 := NB331_354.out
    have hms52_0 := NB354_305.out
    have hms52_1 := NB354_306.out
    have hms52_2 := NB354_307.out
    have hms52_3 := NB354_331.out
    have hs53 : w51.cell? ⟨gb354, 1, none⟩ = some (.int .i64 0) := zc BK354 1
    have hfs53 := blk_frozen BK354.out 1
    have hns53_0 := NB305_354.out
    have hns53_1 := NB306_354.out
    have hns53_2 := NB307_354.out
    have hns53_3 := NB331_354.out
    have hms53_0 := NB354_305.out
    have hms53_1 := NB354_306.out
    have hms53_2 := NB354_307.out
    have hms53_3 := NB354_331.out
    have hs54 : w51.cell? ⟨gb354, 2, none⟩ = some (.int .i64 0) := zc BK354 2
    have hfs54 := blk_frozen BK354.out 2
    have hns54_0 := NB305_354.out
    have hns54_1 := NB306_354.out
    have hns54_2 := NB307_354.out
    have hns54_3 := NB331_354.out
    have hms54_0 := NB354_305.out
    have hms54_1 := NB354_306.out
    have hms54_2 := NB354_307.out
    have hms54_3 := NB354_331.out
    have hs55 : w51.cell? ⟨gb354, 3, none⟩ = some (.int .i64 0) := zc BK354 3
    have hfs55 := blk_frozen BK354.out 3
    have hns55_0 := NB305_354.out
    have hns55_1 := NB306_354.out
    have hns55_2 := NB307_354.out
    have hns55_3 := NB331_354.out
    have hms55_0 := NB354_305.out
    have hms55_1 := NB354_306.out
    have hms55_2 := NB354_307.out
    have hms55_3 := NB354_331.out
    have hs56 : w51.cell? ⟨gb354, 4, none⟩ = some (.int .i64 0) := zc BK354 4
    have hfs56 := blk_frozen BK354.out 4
    have hns56_0 := NB305_354.out
    have hns56_1 := NB306_354.out
    have hns56_2 := NB307_354.out
    have hns56_3 := NB331_354.out
    have hms56_0 := NB354_305.out
    have hms56_1 := NB354_306.out
    have hms56_2 := NB354_307.out
    have hms56_3 := NB354_331.out
    have hs57 : w51.cell? ⟨gb354, 5, none⟩ = some (.int .i64 0) := zc BK354 5
    have hfs57 := blk_frozen BK354.out 5
    have hns57_0 := NB305_354.out
    have hns57_1 := NB306_354.out
    have hns57_2 := NB307_354.out
    have hns57_3 := NB331_354.out
    have hms57_0 := NB354_305.out
    have hms57_1 := NB354_306.out
    have hms57_2 := NB354_307.out
    have hms57_3 := NB354_331.out
    refine skip_ (w1 := ?_) (by rfl) rfl ?_ ?_
    rotate_left
    ·go_simp
     rfl
    refine hK.out _ _ ⟨((cell_far (p := ⟨gb354, _, none⟩) NB305_354.out _).trans (((cell_far (p := ⟨gb354, _, none⟩) NB305_354.out _).trans (((cell_far (p := ⟨gb354, _, none⟩) NB305_354.out _).trans (((cell_far (p := ⟨gb354, _, none⟩) NB305_354.out _).trans (((cell_far (p := ⟨gb354, _, none⟩) NB305_354.out _).trans (((cell_far (p := ⟨gb354, _, none⟩) NB305_354.out _).trans (hHeld.1)))))))))))), ((cell_far (p := ⟨gb354, _, none⟩) NB305_354.out _).trans (((cell_far (p := ⟨gb354, _, none⟩) NB305_354.out _).trans (((cell_far (p := ⟨gb354, _, none⟩) NB305_354.out _).trans (((cell_far (p := ⟨gb354, _, none⟩) NB305_354.out _).trans (((cell_far (p := ⟨gb354, _, none⟩) NB305_354.out _).trans (((cell_far (p := ⟨gb354, _, none⟩) NB305_354.out _).trans (hHeld.2.1)))))))))))), ((cell_far (p := ⟨gb354, _, none⟩) NB305_354.out _).trans (((cell_far (p := ⟨gb354, _, none⟩) NB305_354.out _).trans (((cell_far (p := ⟨gb354, _, none⟩) NB305_354.out _).trans (((cell_far (p := ⟨gb354, _, none⟩) NB305_354.out _).trans (((cell_far (p := ⟨gb354, _, none⟩) NB305_354.out _).trans (((cell_far (p := ⟨gb354, _, none⟩) NB305_354.out _).trans (hHeld.2.2.1)))))))))))), ((cell_far (p := ⟨gb354, _, none⟩) NB305_354.out _).trans (((cell_far (p := ⟨gb354, _, none⟩) NB305_354.out _).trans (((cell_far (p := ⟨gb354, _, none⟩) NB305_354.out _).trans (((cell_far (p := ⟨gb354, _, none⟩) NB305_354.out _).trans (((cell_far (p := ⟨gb354, _, none⟩) NB305_354.out _).trans (((cell_far (p := ⟨gb354, _, none⟩) NB305_354.out _).trans (hHeld.2.2.2.1)))))))))))), ((cell_far (p := ⟨gb354, _, none⟩) NB305_354.out _).trans (((cell_far (p := ⟨gb354, _, none⟩) NB305_354.out _).trans (((cell_far (p := ⟨gb354, _, none⟩) NB305_354.out _).trans (((cell_far (p := ⟨gb354, _, none⟩) NB305_354.out _).trans (((cell_far (p := ⟨gb354, _, none⟩) NB305_354.out _).trans (((cell_far (p := ⟨gb354, _, none⟩) NB305_354.out _).trans (hHeld.2.2.2.2.1)))))))))))), ((cell_far (p := ⟨gb354, _, none⟩) NB306_354.out _).trans (((cell_far (p := ⟨gb354, _, none⟩) NB306_354.out _).trans (((cell_far (p := ⟨gb354, _, none⟩) NB306_354.out _).trans (((cell_far (p := ⟨gb354, _, none⟩) NB306_354.out _).trans (((cell_far (p := ⟨gb354, _, none⟩) NB306_354.out _).trans (((cell_far (p := ⟨gb354, _, none⟩) NB306_354.out _).trans (hHeld.2.2.2.2.2.1)))))))))))), ((cell_far (p := ⟨gb354, _, none⟩) NB306_354.out _).trans (((cell_far (p := ⟨gb354, _, none⟩) NB306_354.out _).trans (((cell_far (p := ⟨gb354, _, none⟩) NB306_354.out _).trans (((cell_far (p := ⟨gb354, _, none⟩) NB306_354.out _).trans (((cell_far (p := ⟨gb354, _, none⟩) NB306_354.out _).trans (((cell_far (p := ⟨gb354, _, none⟩) NB306_354.out _).trans (hHeld.2.2.2.2.2.2.1)))))))))))), ((cell_far (p := ⟨gb354, _, none⟩) NB306_354.out _).trans (((cell_far (p := ⟨gb354, _, none⟩) NB306_354.out _).trans (((cell_far (p := ⟨gb354, _, none⟩) NB306_354.out _).trans (((cell_far (p := ⟨gb354, _, none⟩) NB306_354.out _).trans (((cell_far (p := ⟨gb354, _, none⟩) NB306_354.out _).trans (((cell_far (p := ⟨gb354, _, none⟩) NB306_354.out _).trans (hHeld.2.2.2.2.2.2.2.1)))))))))))), ((cell_far (p := ⟨gb354, _, none⟩) NB306_354.out _).trans (((cell_far (p := ⟨gb354, _, none⟩) NB306_354.out _).trans (((cell_far (p := ⟨gb354, _, none⟩) NB306_354.out _).trans (((cell_far (p := ⟨gb354, _, none⟩) NB306_354.out _).trans (((cell_far (p := ⟨gb354, _, none⟩) NB306_354.out _).trans (((cell_far (p := ⟨gb354, _, none⟩) NB306_354.out _).trans (hHeld.2.2.2.2.2.2.2.2.1)))))))))))), ((cell_far (p := ⟨gb354, _, none⟩) NB306_354.out _).trans (((cell_far (p := ⟨gb354, _, none⟩) NB306_354.out _).trans (((cell_far (p := ⟨gb354, _, none⟩) NB306_354.out _).trans (((cell_far (p := ⟨gb354, _, none⟩) NB306_354.out _).trans (((cell_far (p := ⟨gb354, _, none⟩) NB306_354.out _).trans (((cell_far (p := ⟨gb354, _, none⟩) NB306_354.out _).trans (hHeld.2.2.2.2.2.2.2.2.2.1)))))))))))), ((cell_far (p := ⟨gb354, _, none⟩) NB306_354.out _).trans (((cell_far (p := ⟨gb354, _, none⟩) NB306_354.out _).trans (((cell_far (p := ⟨gb354, _, none⟩) NB306_354.out _).trans (((cell_far (p := ⟨gb354, _, none⟩) NB306_354.out _).trans (((cell_far (p := ⟨gb354, _, none⟩) NB306_354.out _).trans (((cell_far (p := ⟨gb354, _, none⟩) NB306_354.out _).trans (hHeld.2.2.2.2.2.2.2.2.2.2.1)))))))))))), ((cell_far (p := ⟨gb354, _, none⟩) NB307_354.out _).trans (((cell_far (p := ⟨gb354, _, none⟩) NB307_354.out _).trans (((cell_far (p := ⟨gb354, _, none⟩) NB307_354.out _).trans (((cell_far (p := ⟨gb354, _, none⟩) NB307_354.out _).trans (((cell_far (p := ⟨gb354, _, none⟩) NB307_354.out _).trans (((cell_far (p := ⟨gb354, _, none⟩) NB307_354.out _).trans (hHeld.2.2.2.2.2.2.2.2.2.2.2.1)))))))))))), ((cell_far (p := ⟨gb354, _, none⟩) NB307_354.out _).trans (((cell_far (p := ⟨gb354, _, none⟩) NB307_354.out _).trans (((cell_far (p := ⟨gb354, _, none⟩) NB307_354.out _).trans (((cell_far (p := ⟨gb354, _, none⟩) NB307_354.out _).trans (((cell_far (p := ⟨gb354, _, none⟩) NB307_354.out _).trans (((cell_far (p := ⟨gb354, _, none⟩) NB307_354.out _).trans (hHeld.2.2.2.2.2.2.2.2.2.2.2.2))))))))))))⟩ (fun hHeld => ?_)
    clear hK K
    refine done_ (done_of HT_.out (by kernel_rfl)) ?_
    have hnb58 := NB354_305.out
    have hnc58 := NB305_354.out
    have hnb59 := NB354_306.out
    have hnc59 := NB306_354.out
    have hnb60 := NB354_307.out
    have hnc60 := NB307_354.out
    have hnb61 := NB354_331.out
    have hnc61 := NB331_354.out
    obtain ⟨hcz62_0, hcz62_1, hcz62_2, hcz62_3, hcz62_4, hcz62_5, hfz62_0, hfz62_1, hfz62_2, hfz62_3, hfz62_4, hfz62_5⟩ := zs6 BK354
    have hnb63 := NB331_305.out
    have hnc63 := NB305_331.out
    have hnb64 := NB331_306.out
    have hnc64 := NB306_331.out
    have hnb65 := NB331_307.out
    have hnc65 := NB307_331.out
    obtain ⟨hcz66_0, hcz66_1, hcz66_2, hcz66_3, hcz66_4, hcz66_5, hfz66_0, hfz66_1, hfz66_2, hfz66_3, hfz66_4, hfz66_5⟩ := zs6 BK331
    try go_wp2_with (first | ((with_reducible refine gate_callee (f := 23) rfl ?_); refine zL (some 39) Try.func23 #[.agg #[.bool t348, .int .i64 t349, .int .i64 t350, .int .i64 t351, .int .i64 t352, .int .i64 t353], .agg #[.bool t325, .int .i64 t326, .int .i64 t327, .int .i64 t328, .int .i64 t329, .int .i64 t330]] ?_; (with_reducible refine (laws_eqState.calls t348 t349 t350 t351 t352 t353 t325 t326 t327 t328 t329 t330 true _ A20.out).mono ?_); rintro e w67 ⟨rfl, hb⟩; refine ⟨_, rfl, ?_⟩; have n0_ := Aside0.mk (Kd.R_below (by (with_reducible repeat (first | apply Kd.R_alloc | apply Kd.R_drewN | apply Kd.R_drew)); exact (Kd.R_mono (Kd.R_far (p := ⟨gb354, 5, none⟩) (Kd.R_far (p := ⟨gb354, 4, none⟩) (Kd.R_far (p := ⟨gb354, 3, none⟩) (Kd.R_far (p := ⟨gb354, 2, none⟩) (Kd.R_far (p := ⟨gb354, 1, none⟩) (Kd.R_far (p := ⟨gb354, 0, none⟩) (Kd.R_types HO316.out BK354.out (by decide)) (fun _ hk => hk.2) (.bool t348)) (fun _ hk => hk.2) (.int .i64 t349)) (fun _ hk => hk.2) (.int .i64 t350)) (fun _ hk => hk.2) (.int .i64 t351)) (fun _ hk => hk.2) (.int .i64 t352)) (fun _ hk => hk.2) (.int .i64 t353)) (fun _ h_ => h_.1))) hb); have n1_ := Aside0.mk (Kd.R_below (by (with_reducible repeat (first | apply Kd.R_alloc | apply Kd.R_drewN | apply Kd.R_drew)); exact (Kd.R_mono (Kd.R_far (p := ⟨gb354, 5, none⟩) (Kd.R_far (p := ⟨gb354, 4, none⟩) (Kd.R_far (p := ⟨gb354, 3, none⟩) (Kd.R_far (p := ⟨gb354, 2, none⟩) (Kd.R_far (p := ⟨gb354, 1, none⟩) (Kd.R_far (p := ⟨gb354, 0, none⟩) (Kd.R_types HO334.out BK354.out (by decide)) (fun _ hk => hk.2) (.bool t348)) (fun _ hk => hk.2) (.int .i64 t349)) (fun _ hk => hk.2) (.int .i64 t350)) (fun _ hk => hk.2) (.int .i64 t351)) (fun _ hk => hk.2) (.int .i64 t352)) (fun _ hk => hk.2) (.int .i64 t353)) (fun _ h_ => h_.1))) hb); have n2_ := Aside0.mk (blk_below (g := gb305) (o := .cells #[.int .i64 a0_0, .int .i64 a0_1, .int .i64 a0_2, .int .i64 a0_3, .int .i64 a0_4] 39 (0, 0)) (by (with_reducible repeat (first | refine blk_drewN ?_ _ | refine blk_drew ?_ | refine blk_alloc ?_ _)); refine blk_far ?_ NB305_354.out _; (with_reducible repeat (first | refine blk_drewN ?_ _ | refine blk_drew ?_ | refine blk_alloc ?_ _)); refine blk_far ?_ NB305_354.out _; (with_reducible repeat (first | refine blk_drewN ?_ _ | refine blk_drew ?_ | refine blk_alloc ?_ _)); refine blk_far ?_ NB305_354.out _; (with_reducible repeat (first | refine blk_drewN ?_ _ | refine blk_drew ?_ | refine blk_alloc ?_ _)); refine blk_far ?_ NB305_354.out _; (with_reducible repeat (first | refine blk_drewN ?_ _ | refine blk_drew ?_ | refine blk_alloc ?_ _)); refine blk_far ?_ NB305_354.out _; (with_reducible repeat (first | refine blk_drewN ?_ _ | refine blk_drew ?_ | refine blk_alloc ?_ _)); refine blk_far ?_ NB305_354.out _; (with_reducible repeat (first | refine blk_drewN ?_ _ | refine blk_drew ?_ | refine blk_alloc ?_ _)); exact BK305.out) hb); have n3_ := Aside0.mk (blk_below (g := gb306) (o := .cells #[.bool a2_0, .int .i64 a2_1, .int .i64 a2_2, .int .i64 a2_3, .int .i64 a2_4, .int .i64 a2_5] 43 (0, 0)) (by (with_reducible repeat (first | refine blk_drewN ?_ _ | refine blk_drew ?_ | refine blk_alloc ?_ _)); refine blk_far ?_ NB306_354.out _; (with_reducible repeat (first | refine blk_drewN ?_ _ | refine blk_drew ?_ | refine blk_alloc ?_ _)); refine blk_far ?_ NB306_354.out _; (with_reducible repeat (first | refine blk_drewN ?_ _ | refine blk_drew ?_ | refine blk_alloc ?_ _)); refine blk_far ?_ NB306_354.out _; (with_reducible repeat (first | refine blk_drewN ?_ _ | refine blk_drew ?_ | refine blk_alloc ?_ _)); refine blk_far ?_ NB306_354.out _; (with_reducible repeat (first | refine blk_drewN ?_ _ | refine blk_drew ?_ | refine blk_alloc ?_ _)); refine blk_far ?_ NB306_354.out _; (with_reducible repeat (first | refine blk_drewN ?_ _ | refine blk_drew ?_ | refine blk_alloc ?_ _)); refine blk_far ?_ NB306_354.out _; (with_reducible repeat (first | refine blk_drewN ?_ _ | refine blk_drew ?_ | refine blk_alloc ?_ _)); exact BK306.out) hb); have n4_ := Aside0.mk (blk_below (g := gb307) (o := .cells #[.int .i64 a3_0, .int .i64 a3_1] 44 (0, 0)) (by (with_reducible repeat (first | refine blk_drewN ?_ _ | refine blk_drew ?_ | refine blk_alloc ?_ _)); refine blk_far ?_ NB307_354.out _; (with_reducible repeat (first | refine blk_drewN ?_ _ | refine blk_drew ?_ | refine blk_alloc ?_ _)); refine blk_far ?_ NB307_354.out _; (with_reducible repeat (first | refine blk_drewN ?_ _ | refine blk_drew ?_ | refine blk_alloc ?_ _)); refine blk_far ?_ NB307_354.out _; (with_reducible repeat (first | refine blk_drewN ?_ _ | refine blk_drew ?_ | refine blk_alloc ?_ _)); refine blk_far ?_ NB307_354.out _; (with_reducible repeat (first | refine blk_drewN ?_ _ | refine blk_drew ?_ | refine blk_alloc ?_ _)); refine blk_far ?_ NB307_354.out _; (with_reducible repeat (first | refine blk_drewN ?_ _ | refine blk_drew ?_ | refine blk_alloc ?_ _)); refine blk_far ?_ NB307_354.out _; (with_reducible repeat (first | refine blk_drewN ?_ _ | refine blk_drew ?_ | refine blk_alloc ?_ _)); exact BK307.out) hb); have n5_ := Aside0.mk (blk_below (g := gb331) (o := .cells #[.bool t325, .int .i64 t326, .int .i64 t327, .int .i64 t328, .int .i64 t329, .int .i64 t330] 29 (0, 0)) (by (with_reducible repeat (first | refine blk_drewN ?_ _ | refine blk_drew ?_ | refine blk_alloc ?_ _)); refine blk_far ?_ NB331_354.out _; (with_reducible repeat (first | refine blk_drewN ?_ _ | refine blk_drew ?_ | refine blk_alloc ?_ _)); refine blk_far ?_ NB331_354.out _; (with_reducible repeat (first | refine blk_drewN ?_ _ | refine blk_drew ?_ | refine blk_alloc ?_ _)); refine blk_far ?_ NB331_354.out _; (with_reducible repeat (first | refine blk_drewN ?_ _ | refine blk_drew ?_ | refine blk_alloc ?_ _)); refine blk_far ?_ NB331_354.out _; (with_reducible repeat (first | refine blk_drewN ?_ _ | refine blk_drew ?_ | refine blk_alloc ?_ _)); refine blk_far ?_ NB331_354.out _; (with_reducible repeat (first | refine blk_drewN ?_ _ | refine blk_drew ?_ | refine blk_alloc ?_ _)); refine blk_far ?_ NB331_354.out _; (with_reducible repeat (first | refine blk_drewN ?_ _ | refine blk_drew ?_ | refine blk_alloc ?_ _)); exact BK331.out) hb); have n6_ := Aside0.mk (blk_below (g := gb354) (o := .cells #[.bool t348, .int .i64 t349, .int .i64 t350, .int .i64 t351, .int .i64 t352, .int .i64 t353] 29 (0, 0)) (by (with_reducible repeat (first | refine blk_drewN ?_ _ | refine blk_drew ?_ | refine blk_alloc ?_ _)); refine blk_put (cs := #[.bool t348, .int .i64 t349, .int .i64 t350, .int .i64 t351, .int .i64 t352, .int .i64 0]) ?_ 5 _ rfl; (with_reducible repeat (first | refine blk_drewN ?_ _ | refine blk_drew ?_ | refine blk_alloc ?_ _)); refine blk_put (cs := #[.bool t348, .int .i64 t349, .int .i64 t350, .int .i64 t351, .int .i64 0, .int .i64 0]) ?_ 4 _ rfl; (with_reducible repeat (first | refine blk_drewN ?_ _ | refine blk_drew ?_ | refine blk_alloc ?_ _)); refine blk_put (cs := #[.bool t348, .int .i64 t349, .int .i64 t350, .int .i64 0, .int .i64 0, .int .i64 0]) ?_ 3 _ rfl; (with_reducible repeat (first | refine blk_drewN ?_ _ | refine blk_drew ?_ | refine blk_alloc ?_ _)); refine blk_put (cs := #[.bool t348, .int .i64 t349, .int .i64 0, .int .i64 0, .int .i64 0, .int .i64 0]) ?_ 2 _ rfl; (with_reducible repeat (first | refine blk_drewN ?_ _ | refine blk_drew ?_ | refine blk_alloc ?_ _)); refine blk_put (cs := #[.bool t348, .int .i64 0, .int .i64 0, .int .i64 0, .int .i64 0, .int .i64 0]) ?_ 1 _ rfl; (with_reducible repeat (first | refine blk_drewN ?_ _ | refine blk_drew ?_ | refine blk_alloc ?_ _)); refine blk_put (cs := #[.bool false, .int .i64 0, .int .i64 0, .int .i64 0, .int .i64 0, .int .i64 0]) ?_ 0 _ rfl; (with_reducible repeat (first | refine blk_drewN ?_ _ | refine blk_drew ?_ | refine blk_alloc ?_ _)); exact BK354.out) hb); have n7_ := Aside0.mk (below_step (by repeat (first | (with_reducible first | exact HB.out | apply below_alloc | apply pw_below_drewN | apply below_drew1 | refine below_set ?_ GE305.out | refine below_set ?_ GE306.out | refine below_set ?_ GE307.out | refine below_set ?_ GE331.out | refine below_set ?_ GE354.out) | exact HB.out)) hb); clear HO316 HO334 BK305 BK306 BK307 BK331 BK354 HB; have HO316 := n0_; have HO334 := n1_; have BK305 := n2_; have BK306 := n3_; have BK307 := n4_; have BK331 := n5_; have BK354 := n6_; have HB := n7_; clear n0_ n1_ n2_ n3_ n4_ n5_ n6_ n7_; (try clear hb)) | ((with_reducible refine gate_callee (f := 20) rfl ?_); refine zL (some 43) Try.func20 #[.slice A1 l1.length c1] ?_; (with_reducible refine (laws_toMarkS.calls k _ _ l1 t356 _ ?side1 ?side2 A22.out).mono ?_); (case side1 => repeat (first | exact (Kd.C_below HR1.out HB.out) | (with_reducible refine Kd.C_alloc ?_ _) | (with_reducible refine Kd.C_drewN ?_ _) | (with_reducible refine Kd.C_drew ?_))); (case side2 => exact HC1.out); rintro e w68 ⟨v357, rfl, ho0, hb⟩; refine ⟨_, rfl, ?_⟩; have n0_ := Aside0.mk (Kd.R_elder' (zr HO316) (Kd.R_base ho0) hb); have n1_ := Aside0.mk (Kd.R_elder' (zr HO334) (Kd.R_base ho0) hb); have HO358 := Aside0.mk (Kd.R_lower (Kd.R_new' (Kd.R_new' ho0 (Kd.R_lt (zr HO316))) (Kd.R_lt (zr HO334))) (below_size (by repeat (first | (with_reducible first | exact HB.out | apply below_alloc | apply pw_below_drewN | apply below_drew1 | refine below_set ?_ GE305.out | refine below_set ?_ GE306.out | refine below_set ?_ GE307.out | refine below_set ?_ GE331.out | refine below_set ?_ GE354.out) | exact HB.out)))); replace BK305 := zb BK305 hb; replace BK306 := zb BK306 hb; replace BK307 := zb BK307 hb; replace BK331 := zb BK331 hb; replace BK354 := zb BK354 hb; replace HB := zB HB hb; clear HO316 HO334; have HO316 := n0_; have HO334 := n1_; clear n0_ n1_; (try clear hb); (try clear ho0); obtain ⟨Ao69, co69, eo69⟩ := Kd.R_slice HO358.out; subst eo69) | ((with_reducible refine gate_callee (f := 24) rfl ?_); refine zL (some 44) Try.func24 #[.slice Ao44 t332.length co44, .slice Ao69 t356.length co69] ?_; (with_reducible refine (laws_eqMarkS.calls k _ _ t332 _ _ t356 true _ ?side1 ?side2 ?side3 ?side4 A23.out).mono ?_); (case side1 => repeat (first | exact (Kd.R_reads' HO334.out).2.2 | (with_reducible refine Kd.C_alloc ?_ _) | (with_reducible refine Kd.C_drewN ?_ _) | (with_reducible refine Kd.C_drew ?_))); (case side2 => exact (Kd.R_reads' HO334.out).2.1); (case side3 => repeat (first | exact (Kd.R_reads' HO358.out).2.2 | (with_reducible refine Kd.C_alloc ?_ _) | (with_reducible refine Kd.C_drewN ?_ _) | (with_reducible refine Kd.C_drew ?_))); (case side4 => exact (Kd.R_reads' HO358.out).2.1); rintro e w70 ⟨rfl, hb⟩; refine ⟨_, rfl, ?_⟩; have n0_ := Aside0.mk (Kd.R_below (zr HO316) hb); have n1_ := Aside0.mk (Kd.R_below (zr HO334) hb); have n2_ := Aside0.mk (Kd.R_below (zr HO358) hb); replace BK305 := zb BK305 hb; replace BK306 := zb BK306 hb; replace BK307 := zb BK307 hb; replace BK331 := zb BK331 hb; replace BK354 := zb BK354 hb; replace HB := zB HB hb; clear HO316 HO334 HO358; have HO316 := n0_; have HO334 := n1_; have HO358 := n2_; clear n0_ n1_ n2_; (try clear hb)))
    go_ret
    exact ⟨by first | rfl | (simp [errW_none, errW_some] <;> rfl) | (simp [*, errW_none, errW_some] <;> rfl), by repeat (first | (with_reducible first | exact HB.out | apply below_alloc | apply pw_below_drewN | apply below_drew1 | refine below_set ?_ GE305.out | refine below_set ?_ GE306.out | refine below_set ?_ GE307.out | refine below_set ?_ GE331.out | refine below_set ?_ GE354.out) | exact HB.out)⟩
   ·replace c24 := Bool.eq_false_iff.mpr c24
    subst c24
    have H1 : (some false) = some r := by rw [if_neg (show ¬ (false = true) by decide)] at H; exact H
    clear H
    have H := H1
    clear H1
    exact absurd ((Option.some.inj H).trans HT.out) (by decide)
  ·replace c21 := Bool.eq_false_iff.mpr c21
   subst c21
   have H1 : (some false) = some r := by rw [if_neg (show ¬ (false = true) by decide)] at H; exact H
   clear H
   have H := H1
   clear H1
   exact absurd ((Option.some.inj H).trans HT.out) (by decide)

end Go.Proofs.Ytommdabkkgcgbaa.QFnExactDo
