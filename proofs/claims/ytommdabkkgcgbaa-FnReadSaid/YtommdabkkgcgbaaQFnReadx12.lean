-- Written by a program of this session (wip/tools/turnprint.py over the kit's print), for this claim: functions as plain Lean and their contracts.
import Derived.Test.YtommdabkkgcgbaaQFnReadx0
import Derived.Test.YtommdabkkgcgbaaQFnReadx2
import Derived.Test.YtommdabkkgcgbaaQFnReadx3
import Derived.Test.YtommdabkkgcgbaaQFnReadx7
import Derived.Test.YtommdabkkgcgbaaQFnReadx11
namespace Go.Proofs.Ytommdabkkgcgbaa.QFnRead
open Go.RowKit Go.Proofs.YtommdabkkgcgbaaW.PrintWords Go.Proofs.YtommdabkkgcgbaaW.PrintLast Go.Proofs.YtommdabkkgcgbaaW.PrintMore
attribute [local go_sem] max2_int min2_int max_two min_two max_three min_three max_four min_four   -- for this text's walks alone
set_option linter.unusedVariables false
set_option linter.unusedSimpArgs false

attribute [local go_sem high] eqA29
/-! ### laws_FnRead: function 3 -/
mutual
def laws_FnRead.j0 : Nat → List Int → List Int → Bool → Option (Bool)
 | 0, _, _, _ => none
 | k + 1, x0, x1, x21 => if x21 = true then (some true) else ((spec_Known.f k x0).bind fun bt342 => (if (bt342.2.2.2.2.2.1.length : Int) = 0 then ((impl_Do.f k bt342.1 bt342.2.1 bt342.2.2.1 bt342.2.2.2.1 bt342.2.2.2.2.1 bt342.2.2.2.2.2.1 bt342.2.2.2.2.2.2.1 bt342.2.2.2.2.2.2.2.1 bt342.2.2.2.2.2.2.2.2.1 bt342.2.2.2.2.2.2.2.2.2.1 bt342.2.2.2.2.2.2.2.2.2.2.1 bt342.2.2.2.2.2.2.2.2.2.2.2 2 5).bind fun bt358 => (some (bt358.2.2.2.2.2 == 1))) else ((laws_wByte.f x1 0).bind fun t364 => (if 0 ≤ (Int.tmod t364 (bt342.2.2.2.2.2.1.length : Int)) then (if (Int.tmod t364 (bt342.2.2.2.2.2.1.length : Int)) < (bt342.2.2.2.2.2.1.length : Int) then ((laws_wByte.f x1 1).bind fun t366 => (if (Int.tmod t366 2) = 0 then ((laws_wByte.f x1 2).bind fun t367 => ((laws_wByte.f x1 3).bind fun t368 => (laws_FnRead.j1 k x1 bt342.2.2.2.2.2.1 (Int.tmod t364 (bt342.2.2.2.2.2.1.length : Int)) ((rd_T37 bt342.2.2.2.2.2.1 (Int.tmod t364 (bt342.2.2.2.2.2.1.length : Int))).f1) bt342.1 bt342.2.1 bt342.2.2.1 bt342.2.2.2.1 bt342.2.2.2.2.1 bt342.2.2.2.2.2.2.1 (wrap64 (((rd_T37 bt342.2.2.2.2.2.1 (Int.tmod t364 (bt342.2.2.2.2.2.1.length : Int))).f1) - (Int.tmod t367 90))) (wrap64 ((wrap64 (((rd_T37 bt342.2.2.2.2.2.1 (Int.tmod t364 (bt342.2.2.2.2.2.1.length : Int))).f1) - (Int.tmod t367 90))) + t368)) bt342.2.2.2.2.2.2.2.2.2.1 bt342.2.2.2.2.2.2.2.2.2.2.1 bt342.2.2.2.2.2.2.2.2.2.2.2))) else (laws_FnRead.j1 k x1 bt342.2.2.2.2.2.1 (Int.tmod t364 (bt342.2.2.2.2.2.1.length : Int)) ((rd_T37 bt342.2.2.2.2.2.1 (Int.tmod t364 (bt342.2.2.2.2.2.1.length : Int))).f1) bt342.1 bt342.2.1 bt342.2.2.1 bt342.2.2.2.1 bt342.2.2.2.2.1 bt342.2.2.2.2.2.2.1 bt342.2.2.2.2.2.2.2.1 bt342.2.2.2.2.2.2.2.2.1 bt342.2.2.2.2.2.2.2.2.2.1 bt342.2.2.2.2.2.2.2.2.2.2.1 bt342.2.2.2.2.2.2.2.2.2.2.2))) else (none)) else (none)))))
def laws_FnRead.j1 : Nat → List Int → List (S37) → Int → Int → Int → Int → Int → Int → Int → Bool → Int → Int → Int → Int → Int → Option (Bool)
 | 0, _, _, _, _, _, _, _, _, _, _, _, _, _, _, _ => none
 | k + 1, x1, x6, x8, x9, x357000, x357001, x357002, x357003, x357004, x358000, x358001, x358002, x358003, x358004, x358005 => if 0 ≤ x8 then (if x8 < (x6.length : Int) then ((impl_Do.f k x357000 x357001 x357002 x357003 x357004 x6 x358000 x358001 x358002 x358003 x358004 x358005 2 ((rd_T37 x6 x8).f0)).bind fun bt370 => ((spec_Do.f k x357000 x357001 x357002 x357003 x357004 x6 x358000 x358001 x358002 x358003 x358004 x358005 2 ((rd_T37 x6 x8).f0)).bind fun bt378 => (if (!(bt370.1 == bt378.1) || ((!(bt370.2.1 == bt378.2.1) || (!(bt370.2.2.1 == bt378.2.2.1))) || (!(bt370.2.2.2.1 == bt378.2.2.2.1) || (!(bt370.2.2.2.2.1 == bt378.2.2.2.2.1) || (!(bt370.2.2.2.2.2 == bt378.2.2.2.2.2)))))) = true then (laws_FnRead.j2 k x1 x9 true x357000 x357001 x357002 x357003 x357004 x358000 x358001 x358002 x358003 x358004 x358005 bt370.1 bt370.2.1 bt370.2.2.1 bt370.2.2.2.1 bt370.2.2.2.2.1 bt370.2.2.2.2.2) else (if bt370.2.2.2.1 = 0 then (laws_FnRead.j2 k x1 x9 (bt370.2.2.2.2.1 != x8) x357000 x357001 x357002 x357003 x357004 x358000 x358001 x358002 x358003 x358004 x358005 bt370.1 bt370.2.1 bt370.2.2.1 bt370.2.2.2.1 bt370.2.2.2.2.1 bt370.2.2.2.2.2) else (laws_FnRead.j2 k x1 x9 true x357000 x357001 x357002 x357003 x357004 x358000 x358001 x358002 x358003 x358004 x358005 bt370.1 bt370.2.1 bt370.2.2.1 bt370.2.2.2.1 bt370.2.2.2.2.1 bt370.2.2.2.2.2))))) else (none)) else (none)
def laws_FnRead.j2 : Nat → List Int → Int → Bool → Int → Int → Int → Int → Int → Bool → Int → Int → Int → Int → Int → Bool → Int → Int → Int → Int → Int → Option (Bool)
 | 0, _, _, _, _, _, _, _, _, _, _, _, _, _, _, _, _, _, _, _, _ => none
 | k + 1, x1, x9, x99, x357000, x357001, x357002, x357003, x357004, x358000, x358001, x358002, x358003, x358004, x358005, x377000, x377001, x377002, x377003, x377004, x377005 => if x99 = true then (some false) else (if x358001 > (wrap64 (x9 + x357002)) then (laws_FnRead.j3 k x1 x9 true x357000 x357001 x357002 x357003 x357004 x358000 x358001 x358002 x358003 x358004 x358005 x377000 x377001 x377002 x377003 x377004 x377005) else (laws_FnRead.j3 k x1 x9 (decide (x358002 < (wrap64 (x9 - x357002)))) x357000 x357001 x357002 x357003 x357004 x358000 x358001 x358002 x358003 x358004 x358005 x377000 x377001 x377002 x377003 x377004 x377005))
def laws_FnRead.j3 : Nat → List Int → Int → Bool → Int → Int → Int → Int → Int → Bool → Int → Int → Int → Int → Int → Bool → Int → Int → Int → Int → Int → Option (Bool)
 | 0, _, _, _, _, _, _, _, _, _, _, _, _, _, _, _, _, _, _, _, _ => none
 | k + 1, x1, x9, x117, x357000, x357001, x357002, x357003, x357004, x358000, x358001, x358002, x358003, x358004, x358005, x377000, x377001, x377002, x377003, x377004, x377005 => if x117 = true then (if x377005 = 1 then (if x377001 ≤ x358001 then (if x377001 ≤ (wrap64 (x9 - x357002)) then (if x377002 ≥ x358002 then (some (decide (x377002 ≥ (wrap64 (x9 + x357002))))) else (some false)) else (some false)) else (some false)) else (some false)) else (laws_FnRead.l0 k x1 x9 0 x357000 x357001 x357002 x357003 x357004 x358000 x358001 x358002 x358003 x358004 x358005 x377000 x377001 x377002 x377003 x377004 x377005)
def laws_FnRead.l0 : Nat → List Int → Int → Int → Int → Int → Int → Int → Int → Bool → Int → Int → Int → Int → Int → Bool → Int → Int → Int → Int → Int → Option (Bool)
 | 0, _, _, _, _, _, _, _, _, _, _, _, _, _, _, _, _, _, _, _, _ => none
 | k + 1, x1, x9, x11, x357000, x357001, x357002, x357003, x357004, x358000, x358001, x358002, x358003, x358004, x358005, x377000, x377001, x377002, x377003, x377004, x377005 => if x11 < 20 then ((laws_wByte.f x1 x11).bind fun t384 => (if (wrap64 ((wrap64 (x9 + (wrap64 (Int.tdiv (wrap64 (t384 * (wrap64 (x357002 + 1)))) 100)))) - x357002)) ≥ x358001 then (if (wrap64 ((wrap64 (x9 + (wrap64 (Int.tdiv (wrap64 (t384 * (wrap64 (x357002 + 1)))) 100)))) - x357002)) ≤ x358002 then (if (wrap64 ((wrap64 (x9 + (wrap64 (Int.tdiv (wrap64 (t384 * (wrap64 (x357002 + 1)))) 100)))) - x357002)) ≥ (wrap64 (x9 - x357002)) then (if (wrap64 ((wrap64 (x9 + (wrap64 (Int.tdiv (wrap64 (t384 * (wrap64 (x357002 + 1)))) 100)))) - x357002)) ≥ x377001 then (if ((decide ((wrap64 ((wrap64 (x9 + (wrap64 (Int.tdiv (wrap64 (t384 * (wrap64 (x357002 + 1)))) 100)))) - x357002)) ≤ (wrap64 (x9 + x357002)))) != (decide ((wrap64 ((wrap64 (x9 + (wrap64 (Int.tdiv (wrap64 (t384 * (wrap64 (x357002 + 1)))) 100)))) - x357002)) ≤ x377002))) = true then (some false) else (laws_FnRead.l0 k x1 x9 (wrap64 (x11 + 1)) x357000 x357001 x357002 x357003 x357004 x358000 x358001 x358002 x358003 x358004 x358005 x377000 x377001 x377002 x377003 x377004 x377005)) else (if ((decide ((wrap64 ((wrap64 (x9 + (wrap64 (Int.tdiv (wrap64 (t384 * (wrap64 (x357002 + 1)))) 100)))) - x357002)) ≤ (wrap64 (x9 + x357002)))) != false) = true then (some false) else (laws_FnRead.l0 k x1 x9 (wrap64 (x11 + 1)) x357000 x357001 x357002 x357003 x357004 x358000 x358001 x358002 x358003 x358004 x358005 x377000 x377001 x377002 x377003 x377004 x377005))) else (if (wrap64 ((wrap64 (x9 + (wrap64 (Int.tdiv (wrap64 (t384 * (wrap64 (x357002 + 1)))) 100)))) - x357002)) ≥ x377001 then (if (false != (decide ((wrap64 ((wrap64 (x9 + (wrap64 (Int.tdiv (wrap64 (t384 * (wrap64 (x357002 + 1)))) 100)))) - x357002)) ≤ x377002))) = true then (some false) else (laws_FnRead.l0 k x1 x9 (wrap64 (x11 + 1)) x357000 x357001 x357002 x357003 x357004 x358000 x358001 x358002 x358003 x358004 x358005 x377000 x377001 x377002 x377003 x377004 x377005)) else (if (false != false) = true then (some false) else (laws_FnRead.l0 k x1 x9 (wrap64 (x11 + 1)) x357000 x357001 x357002 x357003 x357004 x358000 x358001 x358002 x358003 x358004 x358005 x377000 x377001 x377002 x377003 x377004 x377005)))) else (if (wrap64 ((wrap64 (x9 + (wrap64 (Int.tdiv (wrap64 (t384 * (wrap64 (x357002 + 1)))) 100)))) - x357002)) ≥ x377001 then (if (false != (decide ((wrap64 ((wrap64 (x9 + (wrap64 (Int.tdiv (wrap64 (t384 * (wrap64 (x357002 + 1)))) 100)))) - x357002)) ≤ x377002))) = true then (some false) else (laws_FnRead.l0 k x1 x9 (wrap64 (x11 + 1)) x357000 x357001 x357002 x357003 x357004 x358000 x358001 x358002 x358003 x358004 x358005 x377000 x377001 x377002 x377003 x377004 x377005)) else (if (false != false) = true then (some false) else (laws_FnRead.l0 k x1 x9 (wrap64 (x11 + 1)) x357000 x357001 x357002 x357003 x357004 x358000 x358001 x358002 x358003 x358004 x358005 x377000 x377001 x377002 x377003 x377004 x377005)))) else (if (wrap64 ((wrap64 (x9 + (wrap64 (Int.tdiv (wrap64 (t384 * (wrap64 (x357002 + 1)))) 100)))) - x357002)) ≥ x377001 then (if (false != (decide ((wrap64 ((wrap64 (x9 + (wrap64 (Int.tdiv (wrap64 (t384 * (wrap64 (x357002 + 1)))) 100)))) - x357002)) ≤ x377002))) = true then (some false) else (laws_FnRead.l0 k x1 x9 (wrap64 (x11 + 1)) x357000 x357001 x357002 x357003 x357004 x358000 x358001 x358002 x358003 x358004 x358005 x377000 x377001 x377002 x377003 x377004 x377005)) else (if (false != false) = true then (some false) else (laws_FnRead.l0 k x1 x9 (wrap64 (x11 + 1)) x357000 x357001 x357002 x357003 x357004 x358000 x358001 x358002 x358003 x358004 x358005 x377000 x377001 x377002 x377003 x377004 x377005))))) else (some (x377005 == 0))
end
def laws_FnRead.f (k : Nat) (l0 : List Int) (l1 : List Int) : Option (Bool) := if (l0.length : Int) > 1048576 then (laws_FnRead.j0 k l0 l1 true) else (laws_FnRead.j0 k l0 l1 (decide ((l1.length : Int) > 1048576)))
theorem laws_FnRead.mono_l : ∀ k, (∀ y0 y1 y2, LeO (laws_FnRead.j0 k y0 y1 y2) (laws_FnRead.j0 (k + 1) y0 y1 y2)) ∧ (∀ y0 y1 y2 y3 y4 y5 y6 y7 y8 y9 y10 y11 y12 y13 y14, LeO (laws_FnRead.j1 k y0 y1 y2 y3 y4 y5 y6 y7 y8 y9 y10 y11 y12 y13 y14) (laws_FnRead.j1 (k + 1) y0 y1 y2 y3 y4 y5 y6 y7 y8 y9 y10 y11 y12 y13 y14)) ∧ (∀ y0 y1 y2 y3 y4 y5 y6 y7 y8 y9 y10 y11 y12 y13 y14 y15 y16 y17 y18 y19, LeO (laws_FnRead.j2 k y0 y1 y2 y3 y4 y5 y6 y7 y8 y9 y10 y11 y12 y13 y14 y15 y16 y17 y18 y19) (laws_FnRead.j2 (k + 1) y0 y1 y2 y3 y4 y5 y6 y7 y8 y9 y10 y11 y12 y13 y14 y15 y16 y17 y18 y19)) ∧ (∀ y0 y1 y2 y3 y4 y5 y6 y7 y8 y9 y10 y11 y12 y13 y14 y15 y16 y17 y18 y19, LeO (laws_FnRead.j3 k y0 y1 y2 y3 y4 y5 y6 y7 y8 y9 y10 y11 y12 y13 y14 y15 y16 y17 y18 y19) (laws_FnRead.j3 (k + 1) y0 y1 y2 y3 y4 y5 y6 y7 y8 y9 y10 y11 y12 y13 y14 y15 y16 y17 y18 y19)) ∧ (∀ y0 y1 y2 y3 y4 y5 y6 y7 y8 y9 y10 y11 y12 y13 y14 y15 y16 y17 y18 y19, LeO (laws_FnRead.l0 k y0 y1 y2 y3 y4 y5 y6 y7 y8 y9 y10 y11 y12 y13 y14 y15 y16 y17 y18 y19) (laws_FnRead.l0 (k + 1) y0 y1 y2 y3 y4 y5 y6 y7 y8 y9 y10 y11 y12 y13 y14 y15 y16 y17 y18 y19))
 | 0 => ⟨fun _ _ _ r h => by simp [laws_FnRead.j0] at h, fun _ _ _ _ _ _ _ _ _ _ _ _ _ _ _ r h => by simp [laws_FnRead.j1] at h, fun _ _ _ _ _ _ _ _ _ _ _ _ _ _ _ _ _ _ _ _ r h => by simp [laws_FnRead.j2] at h, fun _ _ _ _ _ _ _ _ _ _ _ _ _ _ _ _ _ _ _ _ r h => by simp [laws_FnRead.j3] at h, fun _ _ _ _ _ _ _ _ _ _ _ _ _ _ _ _ _ _ _ _ r h => by simp [laws_FnRead.l0] at h⟩
 | k + 1 => by
  obtain ⟨ih0, ih1, ih2, ih3, ih4⟩ := laws_FnRead.mono_l k
  refine ⟨?_, ?_, ?_, ?_, ?_⟩
  ·intro y0 y1 y2
   unfold laws_FnRead.j0
   repeat' first
   | (with_reducible exact ih0 _ _ _)
   | (with_reducible exact ih1 _ _ _ _ _ _ _ _ _ _ _ _ _ _ _)
   | (with_reducible exact ih2 _ _ _ _ _ _ _ _ _ _ _ _ _ _ _ _ _ _ _ _)
   | (with_reducible exact ih3 _ _ _ _ _ _ _ _ _ _ _ _ _ _ _ _ _ _ _ _)
   | (with_reducible exact ih4 _ _ _ _ _ _ _ _ _ _ _ _ _ _ _ _ _ _ _ _)
   | (with_reducible exact impl_Do.mono _ _ _ _ _ _ _ _ _ _ _ _ _ _ _)
   | (with_reducible exact spec_Do.mono _ _ _ _ _ _ _ _ _ _ _ _ _ _ _)
   | (with_reducible exact spec_Known.mono _ _)
   | (with_reducible exact LeO.refl _)
   | (with_reducible exact LeO.none _)
   | (with_reducible refine LeO.ite ?_ ?_)
   | (with_reducible refine LeO.bind ?_ (fun _ => ?_))
   | exact ih0 _ _ _
   | exact ih1 _ _ _ _ _ _ _ _ _ _ _ _ _ _ _
   | exact ih2 _ _ _ _ _ _ _ _ _ _ _ _ _ _ _ _ _ _ _ _
   | exact ih3 _ _ _ _ _ _ _ _ _ _ _ _ _ _ _ _ _ _ _ _
   | exact ih4 _ _ _ _ _ _ _ _ _ _ _ _ _ _ _ _ _ _ _ _
   | exact impl_Do.mono _ _ _ _ _ _ _ _ _ _ _ _ _ _ _
   | exact spec_Do.mono _ _ _ _ _ _ _ _ _ _ _ _ _ _ _
   | exact spec_Known.mono _ _
   | exact LeO.none _
   | refine LeO.ite ?_ ?_
   | refine LeO.bind ?_ (fun _ => ?_)
  ·intro y0 y1 y2 y3 y4 y5 y6 y7 y8 y9 y10 y11 y12 y13 y14
   unfold laws_FnRead.j1
   repeat' first
   | (with_reducible exact ih0 _ _ _)
   | (with_reducible exact ih1 _ _ _ _ _ _ _ _ _ _ _ _ _ _ _)
   | (with_reducible exact ih2 _ _ _ _ _ _ _ _ _ _ _ _ _ _ _ _ _ _ _ _)
   | (with_reducible exact ih3 _ _ _ _ _ _ _ _ _ _ _ _ _ _ _ _ _ _ _ _)
   | (with_reducible exact ih4 _ _ _ _ _ _ _ _ _ _ _ _ _ _ _ _ _ _ _ _)
   | (with_reducible exact impl_Do.mono _ _ _ _ _ _ _ _ _ _ _ _ _ _ _)
   | (with_reducible exact spec_Do.mono _ _ _ _ _ _ _ _ _ _ _ _ _ _ _)
   | (with_reducible exact spec_Known.mono _ _)
   | (with_reducible exact LeO.refl _)
   | (with_reducible exact LeO.none _)
   | (with_reducible refine LeO.ite ?_ ?_)
   | (with_reducible refine LeO.bind ?_ (fun _ => ?_))
   | exact ih0 _ _ _
   | exact ih1 _ _ _ _ _ _ _ _ _ _ _ _ _ _ _
   | exact ih2 _ _ _ _ _ _ _ _ _ _ _ _ _ _ _ _ _ _ _ _
   | exact ih3 _ _ _ _ _ _ _ _ _ _ _ _ _ _ _ _ _ _ _ _
   | exact ih4 _ _ _ _ _ _ _ _ _ _ _ _ _ _ _ _ _ _ _ _
   | exact impl_Do.mono _ _ _ _ _ _ _ _ _ _ _ _ _ _ _
   | exact spec_Do.mono _ _ _ _ _ _ _ _ _ _ _ _ _ _ _
   | exact spec_Known.mono _ _
   | exact LeO.none _
   | refine LeO.ite ?_ ?_
   | refine LeO.bind ?_ (fun _ => ?_)
  ·intro y0 y1 y2 y3 y4 y5 y6 y7 y8 y9 y10 y11 y12 y13 y14 y15 y16 y17 y18 y19
   unfold laws_FnRead.j2
   repeat' first
   | (with_reducible exact ih0 _ _ _)
   | (with_reducible exact ih1 _ _ _ _ _ _ _ _ _ _ _ _ _ _ _)
   | (with_reducible exact ih2 _ _ _ _ _ _ _ _ _ _ _ _ _ _ _ _ _ _ _ _)
   | (with_reducible exact ih3 _ _ _ _ _ _ _ _ _ _ _ _ _ _ _ _ _ _ _ _)
   | (with_reducible exact ih4 _ _ _ _ _ _ _ _ _ _ _ _ _ _ _ _ _ _ _ _)
   | (with_reducible exact impl_Do.mono _ _ _ _ _ _ _ _ _ _ _ _ _ _ _)
   | (with_reducible exact spec_Do.mono _ _ _ _ _ _ _ _ _ _ _ _ _ _ _)
   | (with_reducible exact spec_Known.mono _ _)
   | (with_reducible exact LeO.refl _)
   | (with_reducible exact LeO.none _)
   | (with_reducible refine LeO.ite ?_ ?_)
   | (with_reducible refine LeO.bind ?_ (fun _ => ?_))
   | exact ih0 _ _ _
   | exact ih1 _ _ _ _ _ _ _ _ _ _ _ _ _ _ _
   | exact ih2 _ _ _ _ _ _ _ _ _ _ _ _ _ _ _ _ _ _ _ _
   | exact ih3 _ _ _ _ _ _ _ _ _ _ _ _ _ _ _ _ _ _ _ _
   | exact ih4 _ _ _ _ _ _ _ _ _ _ _ _ _ _ _ _ _ _ _ _
   | exact impl_Do.mono _ _ _ _ _ _ _ _ _ _ _ _ _ _ _
   | exact spec_Do.mono _ _ _ _ _ _ _ _ _ _ _ _ _ _ _
   | exact spec_Known.mono _ _
   | exact LeO.none _
   | refine LeO.ite ?_ ?_
   | refine LeO.bind ?_ (fun _ => ?_)
  ·intro y0 y1 y2 y3 y4 y5 y6 y7 y8 y9 y10 y11 y12 y13 y14 y15 y16 y17 y18 y19
   unfold laws_FnRead.j3
   repeat' first
   | (with_reducible exact ih0 _ _ _)
   | (with_reducible exact ih1 _ _ _ _ _ _ _ _ _ _ _ _ _ _ _)
   | (with_reducible exact ih2 _ _ _ _ _ _ _ _ _ _ _ _ _ _ _ _ _ _ _ _)
   | (with_reducible exact ih3 _ _ _ _ _ _ _ _ _ _ _ _ _ _ _ _ _ _ _ _)
   | (with_reducible exact ih4 _ _ _ _ _ _ _ _ _ _ _ _ _ _ _ _ _ _ _ _)
   | (with_reducible exact impl_Do.mono _ _ _ _ _ _ _ _ _ _ _ _ _ _ _)
   | (with_reducible exact spec_Do.mono _ _ _ _ _ _ _ _ _ _ _ _ _ _ _)
   | (with_reducible exact spec_Known.mono _ _)
   | (with_reducible exact LeO.refl _)
   | (with_reducible exact LeO.none _)
   | (with_reducible refine LeO.ite ?_ ?_)
   | (with_reducible refine LeO.bind ?_ (fun _ => ?_))
   | exact ih0 _ _ _
   | exact ih1 _ _ _ _ _ _ _ _ _ _ _ _ _ _ _
   | exact ih2 _ _ _ _ _ _ _ _ _ _ _ _ _ _ _ _ _ _ _ _
   | exact ih3 _ _ _ _ _ _ _ _ _ _ _ _ _ _ _ _ _ _ _ _
   | exact ih4 _ _ _ _ _ _ _ _ _ _ _ _ _ _ _ _ _ _ _ _
   | exact impl_Do.mono _ _ _ _ _ _ _ _ _ _ _ _ _ _ _
   | exact spec_Do.mono _ _ _ _ _ _ _ _ _ _ _ _ _ _ _
   | exact spec_Known.mono _ _
   | exact LeO.none _
   | refine LeO.ite ?_ ?_
   | refine LeO.bind ?_ (fun _ => ?_)
  ·intro y0 y1 y2 y3 y4 y5 y6 y7 y8 y9 y10 y11 y12 y13 y14 y15 y16 y17 y18 y19
   unfold laws_FnRead.l0
   repeat' first
   | (with_reducible exact ih0 _ _ _)
   | (with_reducible exact ih1 _ _ _ _ _ _ _ _ _ _ _ _ _ _ _)
   | (with_reducible exact ih2 _ _ _ _ _ _ _ _ _ _ _ _ _ _ _ _ _ _ _ _)
   | (with_reducible exact ih3 _ _ _ _ _ _ _ _ _ _ _ _ _ _ _ _ _ _ _ _)
   | (with_reducible exact ih4 _ _ _ _ _ _ _ _ _ _ _ _ _ _ _ _ _ _ _ _)
   | (with_reducible exact impl_Do.mono _ _ _ _ _ _ _ _ _ _ _ _ _ _ _)
   | (with_reducible exact spec_Do.mono _ _ _ _ _ _ _ _ _ _ _ _ _ _ _)
   | (with_reducible exact spec_Known.mono _ _)
   | (with_reducible exact LeO.refl _)
   | (with_reducible exact LeO.none _)
   | (with_reducible refine LeO.ite ?_ ?_)
   | (with_reducible refine LeO.bind ?_ (fun _ => ?_))
   | exact ih0 _ _ _
   | exact ih1 _ _ _ _ _ _ _ _ _ _ _ _ _ _ _
   | exact ih2 _ _ _ _ _ _ _ _ _ _ _ _ _ _ _ _ _ _ _ _
   | exact ih3 _ _ _ _ _ _ _ _ _ _ _ _ _ _ _ _ _ _ _ _
   | exact ih4 _ _ _ _ _ _ _ _ _ _ _ _ _ _ _ _ _ _ _ _
   | exact impl_Do.mono _ _ _ _ _ _ _ _ _ _ _ _ _ _ _
   | exact spec_Do.mono _ _ _ _ _ _ _ _ _ _ _ _ _ _ _
   | exact spec_Known.mono _ _
   | exact LeO.none _
   | refine LeO.ite ?_ ?_
   | refine LeO.bind ?_ (fun _ => ?_)
theorem laws_FnRead.mono : ∀ a0 a1 k, LeO (laws_FnRead.f k a0 a1) (laws_FnRead.f (k + 1) a0 a1) := by
 intro a0 a1 k
 obtain ⟨ih0, ih1, ih2, ih3, ih4⟩ := laws_FnRead.mono_l k
 unfold laws_FnRead.f
 repeat' first
   | (with_reducible exact ih0 _ _ _)
   | (with_reducible exact ih1 _ _ _ _ _ _ _ _ _ _ _ _ _ _ _)
   | (with_reducible exact ih2 _ _ _ _ _ _ _ _ _ _ _ _ _ _ _ _ _ _ _ _)
   | (with_reducible exact ih3 _ _ _ _ _ _ _ _ _ _ _ _ _ _ _ _ _ _ _ _)
   | (with_reducible exact ih4 _ _ _ _ _ _ _ _ _ _ _ _ _ _ _ _ _ _ _ _)
   | (with_reducible exact impl_Do.mono _ _ _ _ _ _ _ _ _ _ _ _ _ _ _)
   | (with_reducible exact spec_Do.mono _ _ _ _ _ _ _ _ _ _ _ _ _ _ _)
   | (with_reducible exact spec_Known.mono _ _)
   | (with_reducible exact LeO.refl _)
   | (with_reducible exact LeO.none _)
   | (with_reducible refine LeO.ite ?_ ?_)
   | (with_reducible refine LeO.bind ?_ (fun _ => ?_))
   | exact ih0 _ _ _
   | exact ih1 _ _ _ _ _ _ _ _ _ _ _ _ _ _ _
   | exact ih2 _ _ _ _ _ _ _ _ _ _ _ _ _ _ _ _ _ _ _ _
   | exact ih3 _ _ _ _ _ _ _ _ _ _ _ _ _ _ _ _ _ _ _ _
   | exact ih4 _ _ _ _ _ _ _ _ _ _ _ _ _ _ _ _ _ _ _ _
   | exact impl_Do.mono _ _ _ _ _ _ _ _ _ _ _ _ _ _ _
   | exact spec_Do.mono _ _ _ _ _ _ _ _ _ _ _ _ _ _ _
   | exact spec_Known.mono _ _
   | exact LeO.none _
   | refine LeO.ite ?_ ?_
   | refine LeO.bind ?_ (fun _ => ?_)
def laws_FnRead.T10 : Bool × List (List Nat × List Nat) := (true, [([], []), ([0], [0]), ([1], [1]), ([], []), ([3], [3]), ([2, 4], [2, 4]), ([0, 1, 2, 3, 4, 5], []), ([6, 0, 1, 2, 3, 4, 5], [6]), ([7, 5, 4, 0, 1, 2, 3, 4, 5], [5, 7])])
def laws_FnRead.B10 : List Nat := [0, 1, 3, 0, 8, 31, 63, 127, 255]
theorem laws_FnRead.tab10 : rtab .any (opsOf Try.f3 10) = laws_FnRead.T10 := by kernel_rfl
theorem laws_FnRead.bits10 : waitsOk laws_FnRead.T10.2 laws_FnRead.B10 = true := by kernel_rfl
def laws_FnRead.T11 : Bool × List (List Nat × List Nat) := (true, [([], []), ([], []), ([], []), ([], []), ([], []), ([3, 4], [3, 4]), ([5], [5]), ([6], [6]), ([7], [7]), ([0, 1, 2, 8], [0, 1, 2, 8]), ([], []), ([10, 9, 9, 0, 1, 2, 3, 4, 5, 6, 7, 8, 9, 10], [9, 10])])
def laws_FnRead.B11 : List Nat := [0, 0, 0, 0, 0, 24, 56, 120, 248, 511, 0, 2047]
theorem laws_FnRead.tab11 : rtab .any (opsOf Try.f3 11) = laws_FnRead.T11 := by kernel_rfl
theorem laws_FnRead.bits11 : waitsOk laws_FnRead.T11.2 laws_FnRead.B11 = true := by kernel_rfl
def laws_FnRead.T12 : Bool × List (List Nat × List Nat) := (true, [([], []), ([], []), ([], []), ([], []), ([], []), ([], []), ([4, 5], [4, 5]), ([6], [6]), ([7], [7]), ([8], [8]), ([1, 2, 3, 9], [1, 2, 3, 9]), ([0, 10], [0, 10]), ([11, 10], [11]), ([12], [12]), ([13, 12], [12, 13]), ([14, 12], [12, 14]), ([12, 15], [12, 15]), ([16, 12], [16]), ([17], [17]), ([18, 17], [17, 18]), ([17], [17]), ([19, 20, 17], [17, 19, 20]), ([17, 21], [17, 21])])
def laws_FnRead.B12 : List Nat := [0, 0, 0, 0, 0, 0, 48, 112, 240, 496, 1022, 2047, 4095, 8191, 16383, 32767, 65535, 131071, 262143, 524287, 262143, 2097151, 4194303]
theorem laws_FnRead.tab12 : rtab .any (opsOf Try.f3 12) = laws_FnRead.T12 := by kernel_rfl
theorem laws_FnRead.bits12 : waitsOk laws_FnRead.T12.2 laws_FnRead.B12 = true := by kernel_rfl
def laws_FnRead.T19 : Bool × List (List Nat × List Nat) := (true, [([], []), ([], []), ([], []), ([1, 2], [1, 2]), ([], []), ([4], [4]), ([5], [5]), ([3, 6], [3, 6]), ([7], [7]), ([0, 8], [0, 8]), ([], []), ([10], [10]), ([9, 11], [9, 11]), ([12, 3, 0, 1, 2, 3, 4, 5, 6, 7, 8, 9, 10, 11, 12], [12])])
def laws_FnRead.B19 : List Nat := [0, 0, 0, 6, 0, 16, 48, 126, 254, 511, 0, 1024, 4095, 8191]
theorem laws_FnRead.tab19 : rtab .any (opsOf Try.f3 19) = laws_FnRead.T19 := by kernel_rfl
theorem laws_FnRead.bits19 : waitsOk laws_FnRead.T19.2 laws_FnRead.B19 = true := by kernel_rfl
def laws_FnRead.mask1 : List (Option Nat) := [none, none, none, none, none, none, none, none, none, none, none, none, none, none, some 14, some 15, some 16, some 17, some 18, some 19, some 20, some 21, some 22, some 23, some 24, some 25, some 26, some 27, some 28, some 29, some 30, some 31, some 32, some 33, some 34, some 35, some 36, some 37, some 38, some 39, some 40, some 41, some 42, some 43, some 44, some 45, some 46, some 47, some 48, some 49, some 50, some 51, some 52, some 53, some 54, some 55, some 56, some 57, some 58, some 59, some 60, some 61, some 62, some 63, some 64, some 65, some 66, some 67, some 68, some 69, some 70, some 71, some 72, some 73, some 74, some 75, some 76, some 77, some 78, some 79, some 80, some 81, some 82, some 83, some 84, some 85, some 86, some 87, some 88, some 89, some 90, some 91, some 92, some 93, some 94, some 95, some 96, some 97, some 98, some 99, some 100, some 101, some 102, some 103, some 104, some 105, some 106, some 107, some 108, some 109, some 110, some 111, some 112, some 113, some 114, some 115, some 116, some 117, some 118, some 119, some 120, some 121, some 122, some 123, some 124, some 125, some 126, some 127, some 128, some 129, some 130, some 131, some 132, some 133, some 134, some 135, some 136, some 137, some 138, some 139, some 140, some 141, some 142, some 143, some 144, some 145, some 146, some 147, some 148, some 149, some 150, some 151, some 152, some 153, some 154, some 155, some 156, some 157, some 158, some 159, some 160, some 161, some 162, some 163, some 164, some 165, some 166, some 167, some 168, some 169, some 170, some 171, some 172, some 173, some 174, some 175, some 176, some 177, some 178, some 179, some 180, some 181, some 182, some 183, some 184, some 185, some 186, some 187, some 188, some 189, some 190, some 191, some 192, some 193, some 194, some 195, some 196, some 197, some 198, some 199, some 200, some 201, some 202, some 203, some 204, some 205, some 206, some 207, some 208, some 209, some 210, some 211, some 212, some 213, some 214, some 215, some 216, some 217, some 218, some 219, some 220]
def laws_FnRead.mask2 : List (Option Nat) := [none, none, none, none, none, none, none, none, none, none, none, none, none, none, some 14, some 15, some 16, some 17, some 18, some 19, some 20, some 21, some 22, some 23, some 24, some 25, some 26, some 27, some 28, some 29, some 30, some 31, some 32, some 33, some 34, some 35, some 36, some 37, some 38, some 39, some 40, some 41, some 42, some 43, some 44, some 45, some 46, some 47, some 48, some 49, some 50, some 51, some 52, some 53, some 54, some 55, some 56, some 57, some 58, some 59, some 60, some 61, some 62, some 63, some 64, some 65, some 66, some 67, some 68, some 69, some 70, some 71, some 72, some 73, some 74, some 75, some 76, some 77, some 78, some 79, some 80, some 81, some 82, some 83, some 84, some 85, some 86, some 87, some 88, some 89, some 90, some 91, some 92, some 93, some 94, some 95, some 96, some 97, some 98, some 99, some 100, some 101, some 102, some 103, some 104, some 105, some 106, some 107, some 108, some 109, some 110, some 111, some 112, some 113, some 114, some 115, some 116, some 117, some 118, some 119, some 120, some 121, some 122, some 123, some 124, some 125, some 126, some 127, some 128, some 129, some 130, some 131, some 132, some 133, some 134, some 135, some 136, some 137, some 138, some 139, some 140, some 141, some 142, some 143, some 144, some 145, some 146, some 147, some 148, some 149, some 150, some 151, some 152, some 153, some 154, some 155, some 156, some 157, some 158, some 159, some 160, some 161, some 162, some 163, some 164, some 165, some 166, some 167, some 168, some 169, some 170, some 171, some 172, some 173, some 174, some 175, some 176, some 177, some 178, some 179, some 180, some 181, some 182, some 183, some 184, some 185, some 186, some 187, some 188, some 189, some 190, some 191, some 192, some 193, some 194, some 195, some 196, some 197, some 198, some 199, some 200, some 201, some 202, some 203, some 204, some 205, some 206, some 207, some 208, some 209, some 210, some 211, some 212, some 213, some 214, some 215, some 216, some 217, some 218, some 219, some 220]
def laws_FnRead.mask3 : List (Option Nat) := [none, none, none, none, none, none, none, none, none, none, none, none, none, none, some 14, some 15, some 16, some 17, some 18, some 19, some 20, some 21, some 22, some 23, some 24, some 25, some 26, some 27, some 28, some 29, some 30, some 31, some 32, some 33, some 34, some 35, some 36, some 37, some 38, some 39, some 40, some 41, some 42, some 43, some 44, some 45, some 46, some 47, some 48, some 49, some 50, some 51, some 52, some 53, some 54, some 55, some 56, some 57, some 58, some 59, some 60, some 61, some 62, some 63, some 64, some 65, some 66, some 67, some 68, some 69, some 70, some 71, some 72, some 73, some 74, some 75, some 76, some 77, some 78, some 79, some 80, some 81, some 82, some 83, some 84, some 85, some 86, some 87, some 88, some 89, some 90, some 91, some 92, some 93, some 94, some 95, some 96, some 97, some 98, some 99, some 100, some 101, some 102, some 103, some 104, some 105, some 106, some 107, some 108, some 109, some 110, some 111, some 112, some 113, some 114, some 115, some 116, some 117, some 118, some 119, some 120, some 121, some 122, some 123, some 124, some 125, some 126, some 127, some 128, some 129, some 130, some 131, some 132, some 133, some 134, some 135, some 136, some 137, some 138, some 139, some 140, some 141, some 142, some 143, some 144, some 145, some 146, some 147, some 148, some 149, some 150, some 151, some 152, some 153, some 154, some 155, some 156, some 157, some 158, some 159, some 160, some 161, some 162, some 163, some 164, some 165, some 166, some 167, some 168, some 169, some 170, some 171, some 172, some 173, some 174, some 175, some 176, some 177, some 178, some 179, some 180, some 181, some 182, some 183, some 184, some 185, some 186, some 187, some 188, some 189, some 190, some 191, some 192, some 193, some 194, some 195, some 196, some 197, some 198, some 199, some 200, some 201, some 202, some 203, some 204, some 205, some 206, some 207, some 208, some 209, some 210, some 211, some 212, some 213, some 214, some 215, some 216, some 217, some 218, some 219, some 220]
def laws_FnRead.mask4 : List (Option Nat) := [none, none, none, none, none, none, none, none, none, none, none, none, none, none, some 14, some 15, some 16, some 17, some 18, some 19, some 20, some 21, some 22, some 23, some 24, some 25, some 26, some 27, some 28, some 29, some 30, some 31, some 32, some 33, some 34, some 35, some 36, some 37, some 38, some 39, some 40, some 41, some 42, some 43, some 44, some 45, some 46, some 47, some 48, some 49, some 50, some 51, some 52, some 53, some 54, some 55, some 56, some 57, some 58, some 59, some 60, some 61, some 62, some 63, some 64, some 65, some 66, some 67, some 68, some 69, some 70, some 71, some 72, some 73, some 74, some 75, some 76, some 77, some 78, some 79, some 80, some 81, some 82, some 83, some 84, some 85, some 86, some 87, some 88, some 89, some 90, some 91, some 92, some 93, some 94, some 95, some 96, some 97, some 98, some 99, some 100, some 101, some 102, some 103, some 104, some 105, some 106, some 107, some 108, some 109, some 110, some 111, some 112, some 113, some 114, some 115, some 116, some 117, some 118, some 119, some 120, some 121, some 122, some 123, some 124, some 125, some 126, some 127, some 128, some 129, some 130, some 131, some 132, some 133, some 134, some 135, some 136, some 137, some 138, some 139, some 140, some 141, some 142, some 143, some 144, some 145, some 146, some 147, some 148, some 149, some 150, some 151, some 152, some 153, some 154, some 155, some 156, some 157, some 158, some 159, some 160, some 161, some 162, some 163, some 164, some 165, some 166, some 167, some 168, some 169, some 170, some 171, some 172, some 173, some 174, some 175, some 176, some 177, some 178, some 179, some 180, some 181, some 182, some 183, some 184, some 185, some 186, some 187, some 188, some 189, some 190, some 191, some 192, some 193, some 194, some 195, some 196, some 197, some 198, some 199, some 200, some 201, some 202, some 203, some 204, some 205, some 206, some 207, some 208, some 209, some 210, some 211, some 212, some 213, some 214, some 215, some 216, some 217, some 218, some 219, some 220]
def laws_FnRead.mask5 : List (Option Nat) := [none, none, none, none, some 4, none, none, none, none, none, none, some 11, some 12, some 13, none, none, none, none, none, none, none, none, none, none, none, none, none, none, none, none, none, none, none, none, none, none, none, none, none, none, none, none, none, none, none, none, none, none, none, none, none, none, none, none, none, none, none, none, none, none, none, none, none, none, none, none, none, none, none, none, none, none, none, none, none, none, none, none, none, none, none, none, none, none, none, none, none, none, none, none, none, none, none, none, none, none, none, none, none, none, none, none, none, none, none, none, none, none, none, none, none, none, none, none, none, none, none, none, none, none, none, none, none, none, none, none, none, none, none, none, none, none, none, none, none, none, none, none, none, none, none, none, none, none, none, none, none, none, none, none, none, none, none, none, none, none, none, none, none, some 159, some 160, some 161, some 162, some 163, some 164, some 165, some 166, some 167, some 168, some 169, some 170, some 171, some 172, some 173, some 174, some 175, some 176, some 177, some 178, some 179, some 180, some 181, some 182, some 183, some 184, some 185, some 186, some 187, some 188, some 189, some 190, some 191, some 192, some 193, some 194, some 195, some 196, some 197, some 198, some 199, some 200, some 201, some 202, some 203, some 204, some 205, some 206, some 207, some 208, some 209, some 210, some 211, some 212, some 213, some 214, some 215, some 216, some 217]
set_option maxHeartbeats 8000000 in
set_option maxRecDepth 100000 in
theorem laws_FnRead.calls (k : Nat) (A0 : Option Addr) (c0 : Nat) (l0 : List Int) (A1 : Option Addr) (c1 : Nat) (l1 : List Int) (r : Bool) (w : World) (hr0 : Kd.C (Kd.int .u8) w A0 l0.length l0) (hc0 : l0.length ≤ c0) (hr1 : Kd.C (Kd.int .u8) w A1 l1.length l1) (hc1 : l1.length ≤ c1) (h : laws_FnRead.f k l0 l1 = some r) (HT : Aside0 (r = true)) :
  Calls Try.prog 3 #[.slice A0 l0.length c0, .slice A1 l1.length c1] w fun e w' => e = .returned (.bool r) ∧ Below w.heap.size w w' := by
 have hu24 := Try.underlying24
 have hu29 := Try.underlying29
 have hu34 := Try.underlying34
 have HR0 := Aside0.mk hr0
 have HC0 := Aside0.mk hc0
 clear hr0 hc0
 have HR1 := Aside0.mk hr1
 have HC1 := Aside0.mk hc1
 clear hr1 hc1
 have HB := Aside0.mk (Below.refl w.heap.size w)
 have H : (if (l0.length : Int) > 1048576 then (laws_FnRead.j0 k l0 l1 true) else (laws_FnRead.j0 k l0 l1 (decide ((l1.length : Int) > 1048576)))) = some r := h
 clear h
 have HC3 := Aside0.mk H
 clear H
 go_enter Try.func3, Try.ntmps3
 go_upto_region 1 with (fail)
 refine wp_cutU laws_FnRead.mask1 (fun u_1 wc => ∃ (kq : Nat) (x21_2 : Bool), (u_1 21) = .bool x21_2 ∧ Aside0 (laws_FnRead.j0 kq l0 l1 x21_2 = some r) ∧ Aside0 (kq ≤ k) ∧ Aside0 (Below w.heap.size w wc)) ?rest ?first
 case first =>
  intro _ _ _ _
  have H := HC3.out
  clear HC3
  by_cases c4 : (l0.length : Int) > 1048576
  ·rw [if_pos c4] at H
   have c4b0 : decide (1048576 < (l0.length : Int)) = true := decide_eq_true c4
   have c4b1 : decide (1048576 < l0.length) = true := decide_eq_true (by omega)
   clear c4
   (first | rw [c4b0] | (simp only [i64_w, i32_w]; rw [c4b0]) | skip)
   have H' := Aside0.mk H
   clear H
   go_wp2
   refine Met.intro ?_
   go_step
   refine meetU ?rel (by kernel_rfl) (by kernel_rfl)
   case rel => exact ⟨_, (true), ze, H', ⟨by first | omega | exact Nat.le_refl _⟩, ⟨zh HB⟩⟩
  ·rw [if_neg c4] at H
   have c4b0 : decide (1048576 < (l0.length : Int)) = false := decide_eq_false c4
   have c4b1 : decide (1048576 < l0.length) = false := decide_eq_false (by omega)
   clear c4
   (first | rw [c4b0] | (simp only [i64_w, i32_w]; rw [c4b0]) | skip)
   have H' := Aside0.mk H
   clear H
   go_wp2
   refine Met.intro ?_
   go_step
   refine meetU ?rel (by kernel_rfl) (by kernel_rfl)
   case rel => exact ⟨_, (decide ((l1.length : Int) > 1048576)), ze, H', ⟨by first | omega | exact Nat.le_refl _⟩, ⟨zh HB⟩⟩
 case rest =>
  intro u_1 wc hcut
  dsimp only [laws_FnRead.mask1, forgetL_s, forgetL_n, forgetL_e1, forgetL_e2]
  generalize u_1 21 = v21 at hcut ⊢
  clear HC3
  (try clear c1); (try clear p2); (try clear c3); (try clear c4); (try clear c4b0); (try clear c4b1)
  obtain ⟨kq, x21_2, rfl, HA, HJ2, HB⟩ := hcut
  cases kq with
  | zero => exact absurd HA.out (by simp [laws_FnRead.j0])
  | succ kj2 =>
   have H := HA.out
   clear HA
   simp only [laws_FnRead.j0] at H
   by_cases c5 : x21_2 = true
   ·subst c5
    have H1 : (some true) = some r := by rw [if_pos rfl] at H; exact H
    clear H
    have H := H1
    clear H1
    obtain rfl := Option.some.inj H
    go_wp2
    go_ret
    exact ⟨by first | rfl | (simp [errW_none, errW_some] <;> rfl) | (simp [*, errW_none, errW_some] <;> rfl), by repeat (first | (with_reducible first | exact HB.out | apply below_alloc | apply pw_below_drewN | apply below_drew1) | exact HB.out)⟩
   ·replace c5 := Bool.eq_false_iff.mpr c5
    subst c5
    have H1 : ((spec_Known.f kj2 l0).bind fun bt342 => (if (bt342.2.2.2.2.2.1.length : Int) = 0 then ((impl_Do.f kj2 bt342.1 bt342.2.1 bt342.2.2.1 bt342.2.2.2.1 bt342.2.2.2.2.1 bt342.2.2.2.2.2.1 bt342.2.2.2.2.2.2.1 bt342.2.2.2.2.2.2.2.1 bt342.2.2.2.2.2.2.2.2.1 bt342.2.2.2.2.2.2.2.2.2.1 bt342.2.2.2.2.2.2.2.2.2.2.1 bt342.2.2.2.2.2.2.2.2.2.2.2 2 5).bind fun bt358 => (some (bt358.2.2.2.2.2 == 1))) else ((laws_wByte.f l1 0).bind fun t364 => (if 0 ≤ (Int.tmod t364 (bt342.2.2.2.2.2.1.length : Int)) then (if (Int.tmod t364 (bt342.2.2.2.2.2.1.length : Int)) < (bt342.2.2.2.2.2.1.length : Int) then ((laws_wByte.f l1 1).bind fun t366 => (if (Int.tmod t366 2) = 0 then ((laws_wByte.f l1 2).bind fun t367 => ((laws_wByte.f l1 3).bind fun t368 => (laws_FnRead.j1 kj2 l1 bt342.2.2.2.2.2.1 (Int.tmod t364 (bt342.2.2.2.2.2.1.length : Int)) ((rd_T37 bt342.2.2.2.2.2.1 (Int.tmod t364 (bt342.2.2.2.2.2.1.length : Int))).f1) bt342.1 bt342.2.1 bt342.2.2.1 bt342.2.2.2.1 bt342.2.2.2.2.1 bt342.2.2.2.2.2.2.1 (wrap64 (((rd_T37 bt342.2.2.2.2.2.1 (Int.tmod t364 (bt342.2.2.2.2.2.1.length : Int))).f1) - (Int.tmod t367 90))) (wrap64 ((wrap64 (((rd_T37 bt342.2.2.2.2.2.1 (Int.tmod t364 (bt342.2.2.2.2.2.1.length : Int))).f1) - (Int.tmod t367 90))) + t368)) bt342.2.2.2.2.2.2.2.2.2.1 bt342.2.2.2.2.2.2.2.2.2.2.1 bt342.2.2.2.2.2.2.2.2.2.2.2))) else (laws_FnRead.j1 kj2 l1 bt342.2.2.2.2.2.1 (Int.tmod t364 (bt342.2.2.2.2.2.1.length : Int)) ((rd_T37 bt342.2.2.2.2.2.1 (Int.tmod t364 (bt342.2.2.2.2.2.1.length : Int))).f1) bt342.1 bt342.2.1 bt342.2.2.1 bt342.2.2.2.1 bt342.2.2.2.2.1 bt342.2.2.2.2.2.2.1 bt342.2.2.2.2.2.2.2.1 bt342.2.2.2.2.2.2.2.2.1 bt342.2.2.2.2.2.2.2.2.2.1 bt342.2.2.2.2.2.2.2.2.2.2.1 bt342.2.2.2.2.2.2.2.2.2.2.2))) else (none)) else (none))))) = some r := by rw [if_neg (show ¬ (false = true) by decide)] at H; exact H
    clear H
    have H := H1
    clear H1
    replace H := Option.bind_eq_some_iff.mp H
    obtain ⟨⟨t342, t343, t344, t345, t346, t347, t350, t351, t352, t353, t354, t355⟩, A60, H⟩ := H
    replace H : (if (t347.length : Int) = 0 then ((impl_Do.f kj2 t342 t343 t344 t345 t346 t347 t350 t351 t352 t353 t354 t355 2 5).bind fun bt358 => (some (bt358.2.2.2.2.2 == 1))) else ((laws_wByte.f l1 0).bind fun t364 => (if 0 ≤ (Int.tmod t364 (t347.length : Int)) then (if (Int.tmod t364 (t347.length : Int)) < (t347.length : Int) then ((laws_wByte.f l1 1).bind fun t366 => (if (Int.tmod t366 2) = 0 then ((laws_wByte.f l1 2).bind fun t367 => ((laws_wByte.f l1 3).bind fun t368 => (laws_FnRead.j1 kj2 l1 t347 (Int.tmod t364 (t347.length : Int)) ((rd_T37 t347 (Int.tmod t364 (t347.length : Int))).f1) t342 t343 t344 t345 t346 t350 (wrap64 (((rd_T37 t347 (Int.tmod t364 (t347.length : Int))).f1) - (Int.tmod t367 90))) (wrap64 ((wrap64 (((rd_T37 t347 (Int.tmod t364 (t347.length : Int))).f1) - (Int.tmod t367 90))) + t368)) t353 t354 t355))) else (laws_FnRead.j1 kj2 l1 t347 (Int.tmod t364 (t347.length : Int)) ((rd_T37 t347 (Int.tmod t364 (t347.length : Int))).f1) t342 t343 t344 t345 t346 t350 t351 t352 t353 t354 t355))) else (none)) else (none)))) = some r := H
    have A6 := Aside0.mk A60
    clear A60
    by_cases c7 : (t347.length : Int) = 0
    ·rw [if_pos c7] at H
     have c7b0 : ((t347.length : Int) == 0) = true := beq_iff_eq.mpr c7
     have c7b1 : ((t347.length : Int) != 0) = false := bne_eq_false_iff_eq.mpr c7
     clear c7
     replace H := Option.bind_eq_some_iff.mp H
     obtain ⟨⟨t358, t359, t360, t361, t362, t363⟩, A80, H⟩ := H
     replace H : (some (t363 == 1)) = some r := H
     have A8 := Aside0.mk A80
     clear A80
     obtain rfl := Option.some.inj H
     have hfd8 : ∀ w_ : World, (Instr.field 29 (.agg #[.bool t358, .int .i64 t359, .int .i64 t360, .int .i64 t361, .int .i64 t362, .int .i64 t363]) 4).run Try.prog w_ = .ok (.int .i64 t363) w_ := fun _ => by kernel_rfl
     go_wp2_with (first | ((with_reducible refine gate_callee (f := 14) rfl ?_); refine zL (some 24) Try.func14 #[.slice A0 l0.length c0] ?_; (with_reducible refine (spec_Known.calls kj2 _ _ l0 t342 t343 t344 t345 t346 t347 t350 t351 t352 t353 t354 t355 _ ?side1 ?side2 A6.out).mono ?_); (case side1 => repeat (first | exact (Kd.C_below HR0.out HB.out) | (with_reducible refine Kd.C_alloc ?_ _) | (with_reducible refine Kd.C_drewN ?_ _) | (with_reducible refine Kd.C_drew ?_))); (case side2 => exact HC0.out); rintro e w9 ⟨v348, rfl, ho0, hb⟩; refine ⟨_, rfl, ?_⟩; have HO349 := Aside0.mk (Kd.R_lower ho0 (below_size (zh HB))); replace HB := zB HB hb; (try clear hb); (try clear ho0)) | ((with_reducible refine gate_dst (N := 5) rfl ?_); (try (refine gate_guard (by rfl) ?_; dsimp only)); refine zx 5 #[.int .i64 0, .int .i64 0, .int .i64 0, .int .i64 0, .int .i64 0] 24 ?_; intro gb356 hg w10 hbox hb; have BK356 := Aside0.mk (hbox); have GW356 := zge HB hg; have GE356 := GW356; replace HB := zB HB hb; replace HO349 := Aside0.mk (Kd.R_below (zr HO349) hb); clear hb hbox hg) | ((with_reducible refine gate_dst (N := 7) rfl ?_); (try (refine gate_guard (by rfl) ?_; dsimp only)); refine zx 7 #[.bool false, .int .i64 0, .int .i64 0, .int .i64 0, .int .i64 0, .int .i64 0] 29 ?_; intro gb357 hg w11 hbox hb; have BK357 := Aside0.mk (hbox); have GW357 := zge HB hg; have GE357 := GW357; have NB356_357 := zl BK356 hg; have NB357_356 := zg BK356 hg; replace BK356 := zb BK356 hb; replace HB := zB HB hb; replace HO349 := Aside0.mk (Kd.R_below (zr HO349) hb); clear hb hbox hg; have hnb12 := NB356_357.out; have hnc12 := NB357_356.out; obtain ⟨hcz13_0, hcz13_1, hcz13_2, hcz13_3, hcz13_4, hfz13_0, hfz13_1, hfz13_2, hfz13_3, hfz13_4⟩ := zs5 BK356; obtain ⟨hcz14_0, hcz14_1, hcz14_2, hcz14_3, hcz14_4, hcz14_5, hfz14_0, hfz14_1, hfz14_2, hfz14_3, hfz14_4, hfz14_5⟩ := zs6 BK357; obtain ⟨Ao15, co15, eo15⟩ := Kd.R_slice HO349.out; subst eo15) | ((with_reducible refine gate_callee (f := 15) rfl ?_); refine zL (some 35) Try.func15 #[.agg #[.int .i64 t342, .int .i64 t343, .int .i64 t344, .int .i64 t345, .int .i64 t346], .slice Ao15 t347.length co15, .agg #[.bool t350, .int .i64 t351, .int .i64 t352, .int .i64 t353, .int .i64 t354, .int .i64 t355], .agg #[.int .i64 2, .int .i64 5]] ?_; (with_reducible refine (impl_Do.calls kj2 t342 t343 t344 t345 t346 _ _ t347 t350 t351 t352 t353 t354 t355 2 5 t358 t359 t360 t361 t362 t363 _ ?side1 ?side2 A8.out).mono ?_); (case side1 => refine (Kd.R_reads' (e := 37) (base := w.heap.size) (ok := fun k_ => True) (n := t347.length) (c := co15) ?_).2.2; exact (by (with_reducible repeat (first | apply Kd.R_alloc | apply Kd.R_drewN | apply Kd.R_drew)); exact (Kd.R_mono (Kd.R_mono (Kd.R_far (p := ⟨gb357, 5, none⟩) (Kd.R_far (p := ⟨gb357, 4, none⟩) (Kd.R_far (p := ⟨gb357, 3, none⟩) (Kd.R_far (p := ⟨gb357, 2, none⟩) (Kd.R_far (p := ⟨gb357, 1, none⟩) (Kd.R_far (p := ⟨gb357, 0, none⟩) (Kd.R_far (p := ⟨gb356, 4, none⟩) (Kd.R_far (p := ⟨gb356, 3, none⟩) (Kd.R_far (p := ⟨gb356, 2, none⟩) (Kd.R_far (p := ⟨gb356, 1, none⟩) (Kd.R_far (p := ⟨gb356, 0, none⟩) (Kd.R_types (Kd.R_types HO349.out BK356.out (by decide)) BK357.out (by decide)) (fun _ hk => hk.1.2) (.int .i64 t342)) (fun _ hk => hk.1.2) (.int .i64 t343)) (fun _ hk => hk.1.2) (.int .i64 t344)) (fun _ hk => hk.1.2) (.int .i64 t345)) (fun _ hk => hk.1.2) (.int .i64 t346)) (fun _ hk => hk.2) (.bool t350)) (fun _ hk => hk.2) (.int .i64 t351)) (fun _ hk => hk.2) (.int .i64 t352)) (fun _ hk => hk.2) (.int .i64 t353)) (fun _ hk => hk.2) (.int .i64 t354)) (fun _ hk => hk.2) (.int .i64 t355)) (fun _ h_ => h_.1)) (fun _ h_ => h_.1)))); (case side2 => exact (Kd.R_reads' HO349.out).2.1); rintro e w16 ⟨rfl, hb⟩; refine ⟨_, rfl, ?_⟩; have n0_ := Aside0.mk (Kd.R_below (by (with_reducible repeat (first | apply Kd.R_alloc | apply Kd.R_drewN | apply Kd.R_drew)); exact (Kd.R_mono (Kd.R_mono (Kd.R_far (p := ⟨gb357, 5, none⟩) (Kd.R_far (p := ⟨gb357, 4, none⟩) (Kd.R_far (p := ⟨gb357, 3, none⟩) (Kd.R_far (p := ⟨gb357, 2, none⟩) (Kd.R_far (p := ⟨gb357, 1, none⟩) (Kd.R_far (p := ⟨gb357, 0, none⟩) (Kd.R_far (p := ⟨gb356, 4, none⟩) (Kd.R_far (p := ⟨gb356, 3, none⟩) (Kd.R_far (p := ⟨gb356, 2, none⟩) (Kd.R_far (p := ⟨gb356, 1, none⟩) (Kd.R_far (p := ⟨gb356, 0, none⟩) (Kd.R_types (Kd.R_types HO349.out BK356.out (by decide)) BK357.out (by decide)) (fun _ hk => hk.1.2) (.int .i64 t342)) (fun _ hk => hk.1.2) (.int .i64 t343)) (fun _ hk => hk.1.2) (.int .i64 t344)) (fun _ hk => hk.1.2) (.int .i64 t345)) (fun _ hk => hk.1.2) (.int .i64 t346)) (fun _ hk => hk.2) (.bool t350)) (fun _ hk => hk.2) (.int .i64 t351)) (fun _ hk => hk.2) (.int .i64 t352)) (fun _ hk => hk.2) (.int .i64 t353)) (fun _ hk => hk.2) (.int .i64 t354)) (fun _ hk => hk.2) (.int .i64 t355)) (fun _ h_ => h_.1)) (fun _ h_ => h_.1))) hb); have n1_ := Aside0.mk (blk_below (g := gb356) (o := .cells #[.int .i64 t342, .int .i64 t343, .int .i64 t344, .int .i64 t345, .int .i64 t346] 24 (0, 0)) (by (with_reducible repeat (first | refine blk_drewN ?_ _ | refine blk_drew ?_ | refine blk_alloc ?_ _)); refine blk_far ?_ NB356_357.out _; (with_reducible repeat (first | refine blk_drewN ?_ _ | refine blk_drew ?_ | refine blk_alloc ?_ _)); refine blk_far ?_ NB356_357.out _; (with_reducible repeat (first | refine blk_drewN ?_ _ | refine blk_drew ?_ | refine blk_alloc ?_ _)); refine blk_far ?_ NB356_357.out _; (with_reducible repeat (first | refine blk_drewN ?_ _ | refine blk_drew ?_ | refine blk_alloc ?_ _)); refine blk_far ?_ NB356_357.out _; (with_reducible repeat (first | refine blk_drewN ?_ _ | refine blk_drew ?_ | refine blk_alloc ?_ _)); refine blk_far ?_ NB356_357.out _; (with_reducible repeat (first | refine blk_drewN ?_ _ | refine blk_drew ?_ | refine blk_alloc ?_ _)); refine blk_far ?_ NB356_357.out _; (with_reducible repeat (first | refine blk_drewN ?_ _ | refine blk_drew ?_ | refine blk_alloc ?_ _)); refine blk_put (cs := #[.int .i64 t342, .int .i64 t343, .int .i64 t344, .int .i64 t345, .int .i64 0]) ?_ 4 _ rfl; (with_reducible repeat (first | refine blk_drewN ?_ _ | refine blk_drew ?_ | refine blk_alloc ?_ _)); refine blk_put (cs := #[.int .i64 t342, .int .i64 t343, .int .i64 t344, .int .i64 0, .int .i64 0]) ?_ 3 _ rfl; (with_reducible repeat (first | refine blk_drewN ?_ _ | refine blk_drew ?_ | refine blk_alloc ?_ _)); refine blk_put (cs := #[.int .i64 t342, .int .i64 t343, .int .i64 0, .int .i64 0, .int .i64 0]) ?_ 2 _ rfl; (with_reducible repeat (first | refine blk_drewN ?_ _ | refine blk_drew ?_ | refine blk_alloc ?_ _)); refine blk_put (cs := #[.int .i64 t342, .int .i64 0, .int .i64 0, .int .i64 0, .int .i64 0]) ?_ 1 _ rfl; (with_reducible repeat (first | refine blk_drewN ?_ _ | refine blk_drew ?_ | refine blk_alloc ?_ _)); refine blk_put (cs := #[.int .i64 0, .int .i64 0, .int .i64 0, .int .i64 0, .int .i64 0]) ?_ 0 _ rfl; (with_reducible repeat (first | refine blk_drewN ?_ _ | refine blk_drew ?_ | refine blk_alloc ?_ _)); exact BK356.out) hb); have n2_ := Aside0.mk (blk_below (g := gb357) (o := .cells #[.bool t350, .int .i64 t351, .int .i64 t352, .int .i64 t353, .int .i64 t354, .int .i64 t355] 29 (0, 0)) (by (with_reducible repeat (first | refine blk_drewN ?_ _ | refine blk_drew ?_ | refine blk_alloc ?_ _)); refine blk_put (cs := #[.bool t350, .int .i64 t351, .int .i64 t352, .int .i64 t353, .int .i64 t354, .int .i64 0]) ?_ 5 _ rfl; (with_reducible repeat (first | refine blk_drewN ?_ _ | refine blk_drew ?_ | refine blk_alloc ?_ _)); refine blk_put (cs := #[.bool t350, .int .i64 t351, .int .i64 t352, .int .i64 t353, .int .i64 0, .int .i64 0]) ?_ 4 _ rfl; (with_reducible repeat (first | refine blk_drewN ?_ _ | refine blk_drew ?_ | refine blk_alloc ?_ _)); refine blk_put (cs := #[.bool t350, .int .i64 t351, .int .i64 t352, .int .i64 0, .int .i64 0, .int .i64 0]) ?_ 3 _ rfl; (with_reducible repeat (first | refine blk_drewN ?_ _ | refine blk_drew ?_ | refine blk_alloc ?_ _)); refine blk_put (cs := #[.bool t350, .int .i64 t351, .int .i64 0, .int .i64 0, .int .i64 0, .int .i64 0]) ?_ 2 _ rfl; (with_reducible repeat (first | refine blk_drewN ?_ _ | refine blk_drew ?_ | refine blk_alloc ?_ _)); refine blk_put (cs := #[.bool t350, .int .i64 0, .int .i64 0, .int .i64 0, .int .i64 0, .int .i64 0]) ?_ 1 _ rfl; (with_reducible repeat (first | refine blk_drewN ?_ _ | refine blk_drew ?_ | refine blk_alloc ?_ _)); refine blk_put (cs := #[.bool false, .int .i64 0, .int .i64 0, .int .i64 0, .int .i64 0, .int .i64 0]) ?_ 0 _ rfl; (with_reducible repeat (first | refine blk_drewN ?_ _ | refine blk_drew ?_ | refine blk_alloc ?_ _)); refine blk_far ?_ NB357_356.out _; (with_reducible repeat (first | refine blk_drewN ?_ _ | refine blk_drew ?_ | refine blk_alloc ?_ _)); refine blk_far ?_ NB357_356.out _; (with_reducible repeat (first | refine blk_drewN ?_ _ | refine blk_drew ?_ | refine blk_alloc ?_ _)); refine blk_far ?_ NB357_356.out _; (with_reducible repeat (first | refine blk_drewN ?_ _ | refine blk_drew ?_ | refine blk_alloc ?_ _)); refine blk_far ?_ NB357_356.out _; (with_reducible repeat (first | refine blk_drewN ?_ _ | refine blk_drew ?_ | refine blk_alloc ?_ _)); refine blk_far ?_ NB357_356.out _; (with_reducible repeat (first | refine blk_drewN ?_ _ | refine blk_drew ?_ | refine blk_alloc ?_ _)); exact BK357.out) hb); have n3_ := Aside0.mk (below_step (by repeat (first | (with_reducible first | exact HB.out | apply below_alloc | apply pw_below_drewN | apply below_drew1 | refine below_set ?_ GE356.out | refine below_set ?_ GE357.out) | exact HB.out)) hb); clear HO349 BK356 BK357 HB; have HO349 := n0_; have BK356 := n1_; have BK357 := n2_; have HB := n3_; clear n0_ n1_ n2_ n3_; (try clear hb)))
     go_ret
     exact ⟨by first | rfl | (simp [errW_none, errW_some] <;> rfl) | (simp [*, errW_none, errW_some] <;> rfl), by repeat (first | (with_reducible first | exact HB.out | apply below_alloc | apply pw_below_drewN | apply below_drew1 | refine below_set ?_ GE356.out | refine below_set ?_ GE357.out) | exact HB.out)⟩
    ·rw [if_neg c7] at H
     have c7b0 : ((t347.length : Int) == 0) = false := beq_eq_false_iff_ne.mpr c7
     have c7b1 : ((t347.length : Int) != 0) = true := bne_iff_ne.mpr c7
     have c7b2 : ¬ (t347 = []) := fun h_ => c7 (by rw [h_]; rfl)
     replace H := Option.bind_eq_some_iff.mp H
     obtain ⟨t364, A170, H⟩ := H
     replace H : (if 0 ≤ (Int.tmod t364 (t347.length : Int)) then (if (Int.tmod t364 (t347.length : Int)) < (t347.length : Int) then ((laws_wByte.f l1 1).bind fun t366 => (if (Int.tmod t366 2) = 0 then ((laws_wByte.f l1 2).bind fun t367 => ((laws_wByte.f l1 3).bind fun t368 => (laws_FnRead.j1 kj2 l1 t347 (Int.tmod t364 (t347.length : Int)) ((rd_T37 t347 (Int.tmod t364 (t347.length : Int))).f1) t342 t343 t344 t345 t346 t350 (wrap64 (((rd_T37 t347 (Int.tmod t364 (t347.length : Int))).f1) - (Int.tmod t367 90))) (wrap64 ((wrap64 (((rd_T37 t347 (Int.tmod t364 (t347.length : Int))).f1) - (Int.tmod t367 90))) + t368)) t353 t354 t355))) else (laws_FnRead.j1 kj2 l1 t347 (Int.tmod t364 (t347.length : Int)) ((rd_T37 t347 (Int.tmod t364 (t347.length : Int))).f1) t342 t343 t344 t345 t346 t350 t351 t352 t353 t354 t355))) else (none)) else (none)) = some r := H
     have A17 := Aside0.mk A170
     clear A170
     obtain ⟨ji18, hji18⟩ : ∃ j_ : Int, (Int.tmod t364 (t347.length : Int)) = j_ := ⟨_, rfl⟩
     replace H : (if 0 ≤ (ji18) then (if (ji18) < (t347.length : Int) then ((laws_wByte.f l1 1).bind fun t366 => (if (Int.tmod t366 2) = 0 then ((laws_wByte.f l1 2).bind fun t367 => ((laws_wByte.f l1 3).bind fun t368 => (laws_FnRead.j1 kj2 l1 t347 ji18 ((rd_T37 t347 (ji18)).f1) t342 t343 t344 t345 t346 t350 (wrap64 (((rd_T37 t347 (ji18)).f1) - (Int.tmod t367 90))) (wrap64 ((wrap64 (((rd_T37 t347 (ji18)).f1) - (Int.tmod t367 90))) + t368)) t353 t354 t355))) else (laws_FnRead.j1 kj2 l1 t347 ji18 ((rd_T37 t347 (ji18)).f1) t342 t343 t344 t345 t346 t350 t351 t352 t353 t354 t355))) else (none)) else (none)) = some r := by first | (rw [hji18] at H; exact H) | (simp only [hji18] at H ⊢; exact H)
     (try rw [hji18] at A6)
     (try rw [hji18] at A17)
     by_cases c19 : 0 ≤ (ji18)
     ·rw [if_pos c19] at H
      have c19b0 : decide (0 ≤ (ji18)) = true := decide_eq_true c19
      clear c19
      by_cases c20 : (ji18) < (t347.length : Int)
      ·rw [if_pos c20] at H
       have c20b0 : decide ((ji18) < (t347.length : Int)) = true := decide_eq_true c20
       clear c20
       replace H := Option.bind_eq_some_iff.mp H
       obtain ⟨t366, A210, H⟩ := H
       replace H : (if (Int.tmod t366 2) = 0 then ((laws_wByte.f l1 2).bind fun t367 => ((laws_wByte.f l1 3).bind fun t368 => (laws_FnRead.j1 kj2 l1 t347 ji18 ((rd_T37 t347 (ji18)).f1) t342 t343 t344 t345 t346 t350 (wrap64 (((rd_T37 t347 (ji18)).f1) - (Int.tmod t367 90))) (wrap64 ((wrap64 (((rd_T37 t347 (ji18)).f1) - (Int.tmod t367 90))) + t368)) t353 t354 t355))) else (laws_FnRead.j1 kj2 l1 t347 ji18 ((rd_T37 t347 (ji18)).f1) t342 t343 t344 t345 t346 t350 t351 t352 t353 t354 t355)) = some r := H
       have A21 := Aside0.mk A210
       clear A210
       have HC22 := Aside0.mk H
       clear H
       go_upto_if 51 with (first | ((with_reducible refine gate_callee (f := 14) rfl ?_); refine zL (some 24) Try.func14 #[.slice A0 l0.length c0] ?_; (with_reducible refine (spec_Known.calls kj2 _ _ l0 t342 t343 t344 t345 t346 t347 t350 t351 t352 t353 t354 t355 _ ?side1 ?side2 A6.out).mono ?_); (case side1 => repeat (first | exact (Kd.C_below HR0.out HB.out) | (with_reducible refine Kd.C_alloc ?_ _) | (with_reducible refine Kd.C_drewN ?_ _) | (with_reducible refine Kd.C_drew ?_))); (case side2 => exact HC0.out); rintro e w23 ⟨v348, rfl, ho0, hb⟩; refine ⟨_, rfl, ?_⟩; have HO349 := Aside0.mk (Kd.R_lower ho0 (below_size (zh HB))); replace HB := zB HB hb; (try clear hb); (try clear ho0)) | ((with_reducible refine gate_dst (N := 5) rfl ?_); (try (refine gate_guard (by rfl) ?_; dsimp only)); refine zx 5 #[.int .i64 0, .int .i64 0, .int .i64 0, .int .i64 0, .int .i64 0] 24 ?_; intro gb356 hg w24 hbox hb; have BK356 := Aside0.mk (hbox); have GW356 := zge HB hg; have GE356 := GW356; replace HB := zB HB hb; replace HO349 := Aside0.mk (Kd.R_below (zr HO349) hb); clear hb hbox hg) | ((with_reducible refine gate_dst (N := 7) rfl ?_); (try (refine gate_guard (by rfl) ?_; dsimp only)); refine zx 7 #[.bool false, .int .i64 0, .int .i64 0, .int .i64 0, .int .i64 0, .int .i64 0] 29 ?_; intro gb357 hg w25 hbox hb; have BK357 := Aside0.mk (hbox); have GW357 := zge HB hg; have GE357 := GW357; have NB356_357 := zl BK356 hg; have NB357_356 := zg BK356 hg; replace BK356 := zb BK356 hb; replace HB := zB HB hb; replace HO349 := Aside0.mk (Kd.R_below (zr HO349) hb); clear hb hbox hg; have hnb26 := NB356_357.out; have hnc26 := NB357_356.out; obtain ⟨hcz27_0, hcz27_1, hcz27_2, hcz27_3, hcz27_4, hfz27_0, hfz27_1, hfz27_2, hfz27_3, hfz27_4⟩ := zs5 BK356; obtain ⟨hcz28_0, hcz28_1, hcz28_2, hcz28_3, hcz28_4, hcz28_5, hfz28_0, hfz28_1, hfz28_2, hfz28_3, hfz28_4, hfz28_5⟩ := zs6 BK357; obtain ⟨Ao29, co29, eo29⟩ := Kd.R_slice HO349.out; subst eo29) | ((with_reducible refine gate_callee (f := 16) rfl ?_); refine zL (some 39) Try.func16 #[.slice A1 l1.length c1, .int .i64 0] ?_; (with_reducible refine (laws_wByte.calls _ _ l1 0 t364 _ ?side1 ?side2 A17.out).mono ?_); (case side1 => exact Kd.C_below HR1.out (by repeat (first | (with_reducible first | exact HB.out | apply below_alloc | apply pw_below_drewN | apply below_drew1 | refine below_set ?_ GE356.out | refine below_set ?_ GE357.out) | exact HB.out))); (case side2 => exact HC1.out); rintro e w' ⟨rfl, ⟨nd, rfl⟩⟩; refine ⟨_, rfl, ?_⟩; have p365 : 0 ≤ ((ji18) : Int) := of_decide_eq_true (by first | (with_reducible assumption) | assumption); have q365 : (ji18) < (t347.length : Int) := of_decide_eq_true (by first | (with_reducible assumption) | assumption); obtain ⟨ad365, e365, hx365_0, hx365_1⟩ := at_T37 (Kd.R_reads' HO349.out).2.2 (ji18) p365 q365; cases e365; have hn365_0 : ad365.block ≠ gb356 := Kd.own_blk (Kd.R_ne HO349.out BK356.out (by decide)); have hn365_1 : ad365.block ≠ gb356 := Kd.own_blk (Kd.R_ne HO349.out BK356.out (by decide)); have hn365_2 : ad365.block ≠ gb356 := Kd.own_blk (Kd.R_ne HO349.out BK356.out (by decide)); have hn365_3 : ad365.block ≠ gb356 := Kd.own_blk (Kd.R_ne HO349.out BK356.out (by decide)); have hn365_4 : ad365.block ≠ gb356 := Kd.own_blk (Kd.R_ne HO349.out BK356.out (by decide)); have hn365_5 : ad365.block ≠ gb357 := Kd.own_blk (Kd.R_ne HO349.out BK357.out (by decide)); have hn365_6 : ad365.block ≠ gb357 := Kd.own_blk (Kd.R_ne HO349.out BK357.out (by decide)); have hn365_7 : ad365.block ≠ gb357 := Kd.own_blk (Kd.R_ne HO349.out BK357.out (by decide)); have hn365_8 : ad365.block ≠ gb357 := Kd.own_blk (Kd.R_ne HO349.out BK357.out (by decide)); have hn365_9 : ad365.block ≠ gb357 := Kd.own_blk (Kd.R_ne HO349.out BK357.out (by decide)); have hn365_10 : ad365.block ≠ gb357 := Kd.own_blk (Kd.R_ne HO349.out BK357.out (by decide)); replace hx365_0 := (cell_far (p := ⟨gb356, 0, none⟩) (by first | (rw [add_block]; exact hn365_0) | (show (Addr.add _ _).block ≠ _; rw [add_block]; exact hn365_0) | exact hn365_0) (.int .i64 t342)).trans hx365_0; replace hx365_1 := (cell_far (p := ⟨gb356, 0, none⟩) (by first | (rw [add_block]; exact hn365_0) | (show (Addr.add _ _).block ≠ _; rw [add_block]; exact hn365_0) | exact hn365_0) (.int .i64 t342)).trans hx365_1; replace hx365_0 := (cell_far (p := ⟨gb356, 1, none⟩) (by first | (rw [add_block]; exact hn365_1) | (show (Addr.add _ _).block ≠ _; rw [add_block]; exact hn365_1) | exact hn365_1) (.int .i64 t343)).trans hx365_0; replace hx365_1 := (cell_far (p := ⟨gb356, 1, none⟩) (by first | (rw [add_block]; exact hn365_1) | (show (Addr.add _ _).block ≠ _; rw [add_block]; exact hn365_1) | exact hn365_1) (.int .i64 t343)).trans hx365_1; replace hx365_0 := (cell_far (p := ⟨gb356, 2, none⟩) (by first | (rw [add_block]; exact hn365_2) | (show (Addr.add _ _).block ≠ _; rw [add_block]; exact hn365_2) | exact hn365_2) (.int .i64 t344)).trans hx365_0; replace hx365_1 := (cell_far (p := ⟨gb356, 2, none⟩) (by first | (rw [add_block]; exact hn365_2) | (show (Addr.add _ _).block ≠ _; rw [add_block]; exact hn365_2) | exact hn365_2) (.int .i64 t344)).trans hx365_1; replace hx365_0 := (cell_far (p := ⟨gb356, 3, none⟩) (by first | (rw [add_block]; exact hn365_3) | (show (Addr.add _ _).block ≠ _; rw [add_block]; exact hn365_3) | exact hn365_3) (.int .i64 t345)).trans hx365_0; replace hx365_1 := (cell_far (p := ⟨gb356, 3, none⟩) (by first | (rw [add_block]; exact hn365_3) | (show (Addr.add _ _).block ≠ _; rw [add_block]; exact hn365_3) | exact hn365_3) (.int .i64 t345)).trans hx365_1; replace hx365_0 := (cell_far (p := ⟨gb356, 4, none⟩) (by first | (rw [add_block]; exact hn365_4) | (show (Addr.add _ _).block ≠ _; rw [add_block]; exact hn365_4) | exact hn365_4) (.int .i64 t346)).trans hx365_0; replace hx365_1 := (cell_far (p := ⟨gb356, 4, none⟩) (by first | (rw [add_block]; exact hn365_4) | (show (Addr.add _ _).block ≠ _; rw [add_block]; exact hn365_4) | exact hn365_4) (.int .i64 t346)).trans hx365_1; replace hx365_0 := (cell_far (p := ⟨gb357, 0, none⟩) (by first | (rw [add_block]; exact hn365_5) | (show (Addr.add _ _).block ≠ _; rw [add_block]; exact hn365_5) | exact hn365_5) (.bool t350)).trans hx365_0; replace hx365_1 := (cell_far (p := ⟨gb357, 0, none⟩) (by first | (rw [add_block]; exact hn365_5) | (show (Addr.add _ _).block ≠ _; rw [add_block]; exact hn365_5) | exact hn365_5) (.bool t350)).trans hx365_1; replace hx365_0 := (cell_far (p := ⟨gb357, 1, none⟩) (by first | (rw [add_block]; exact hn365_6) | (show (Addr.add _ _).block ≠ _; rw [add_block]; exact hn365_6) | exact hn365_6) (.int .i64 t351)).trans hx365_0; replace hx365_1 := (cell_far (p := ⟨gb357, 1, none⟩) (by first | (rw [add_block]; exact hn365_6) | (show (Addr.add _ _).block ≠ _; rw [add_block]; exact hn365_6) | exact hn365_6) (.int .i64 t351)).trans hx365_1; replace hx365_0 := (cell_far (p := ⟨gb357, 2, none⟩) (by first | (rw [add_block]; exact hn365_7) | (show (Addr.add _ _).block ≠ _; rw [add_block]; exact hn365_7) | exact hn365_7) (.int .i64 t352)).trans hx365_0; replace hx365_1 := (cell_far (p := ⟨gb357, 2, none⟩) (by first | (rw [add_block]; exact hn365_7) | (show (Addr.add _ _).block ≠ _; rw [add_block]; exact hn365_7) | exact hn365_7) (.int .i64 t352)).trans hx365_1; replace hx365_0 := (cell_far (p := ⟨gb357, 3, none⟩) (by first | (rw [add_block]; exact hn365_8) | (show (Addr.add _ _).block ≠ _; rw [add_block]; exact hn365_8) | exact hn365_8) (.int .i64 t353)).trans hx365_0; replace hx365_1 := (cell_far (p := ⟨gb357, 3, none⟩) (by first | (rw [add_block]; exact hn365_8) | (show (Addr.add _ _).block ≠ _; rw [add_block]; exact hn365_8) | exact hn365_8) (.int .i64 t353)).trans hx365_1; replace hx365_0 := (cell_far (p := ⟨gb357, 4, none⟩) (by first | (rw [add_block]; exact hn365_9) | (show (Addr.add _ _).block ≠ _; rw [add_block]; exact hn365_9) | exact hn365_9) (.int .i64 t354)).trans hx365_0; replace hx365_1 := (cell_far (p := ⟨gb357, 4, none⟩) (by first | (rw [add_block]; exact hn365_9) | (show (Addr.add _ _).block ≠ _; rw [add_block]; exact hn365_9) | exact hn365_9) (.int .i64 t354)).trans hx365_1; replace hx365_0 := (cell_far (p := ⟨gb357, 5, none⟩) (by first | (rw [add_block]; exact hn365_10) | (show (Addr.add _ _).block ≠ _; rw [add_block]; exact hn365_10) | exact hn365_10) (.int .i64 t355)).trans hx365_0; replace hx365_1 := (cell_far (p := ⟨gb357, 5, none⟩) (by first | (rw [add_block]; exact hn365_10) | (show (Addr.add _ _).block ≠ _; rw [add_block]; exact hn365_10) | exact hn365_10) (.int .i64 t355)).trans hx365_1; clear hn365_0 hn365_1 hn365_2 hn365_3 hn365_4 hn365_5 hn365_6 hn365_7 hn365_8 hn365_9 hn365_10; replace p365 := eq_true p365; replace q365 := eq_true q365) | ((with_reducible refine gate_callee (f := 16) rfl ?_); refine zL (some 49) Try.func16 #[.slice A1 l1.length c1, .int .i64 1] ?_; (with_reducible refine (laws_wByte.calls _ _ l1 1 t366 _ ?side1 ?side2 A21.out).mono ?_); (case side1 => exact Kd.C_below HR1.out (by repeat (first | (with_reducible first | exact HB.out | apply below_alloc | apply pw_below_drewN | apply below_drew1 | refine below_set ?_ GE356.out | refine below_set ?_ GE357.out) | exact HB.out))); (case side2 => exact HC1.out); rintro e w' ⟨rfl, ⟨nd, rfl⟩⟩; refine ⟨_, rfl, ?_⟩))
       (try simp only [Act.put, List.setIfInBounds_toArray, List.set_cons_zero, List.set_cons_succ])
       refine wp_cutU laws_FnRead.mask2 (fun u_2 wc => ∃ (kq : Nat) (x358001_21 : Int) (x358002_21 : Int), Aside0 (laws_FnRead.j1 kq l1 t347 ji18 ((rd_T37 t347 (ji18)).f1) t342 t343 t344 t345 t346 t350 x358001_21 x358002_21 t353 t354 t355 = some r) ∧ Aside0 (kq ≤ kj2) ∧ Aside0 (Kd.R k37 37 wc w.heap.size (fun _ => True) (.slice (some ad365) t347.length co29) t347) ∧ Aside0 (wc.heap[gb356]? = some (.cells #[.int .i64 t342, .int .i64 t343, .int .i64 t344, .int .i64 t345, .int .i64 t346] 24 (0, 0))) ∧ Aside0 (wc.heap[gb357]? = some (.cells #[.bool t350, .int .i64 x358001_21, .int .i64 x358002_21, .int .i64 t353, .int .i64 t354, .int .i64 t355] 29 (0, 0))) ∧ Aside0 (Below w.heap.size w wc)) ?rest ?first
       case first =>
        intro _ _ _ _
        have H := HC22.out
        clear HC22
        by_cases c30 : (Int.tmod t366 2) = 0
        ·rw [if_pos c30] at H
         have c30b0 : ((Int.tmod t366 2) == 0) = true := beq_iff_eq.mpr c30
         have c30b1 : ((Int.tmod t366 2) != 0) = false := bne_eq_false_iff_eq.mpr c30
         clear c30
         (first | rw [c30b0] | (simp only [i64_w, i32_w]; rw [c30b0]) | skip)
         replace H := Option.bind_eq_some_iff.mp H
         obtain ⟨t367, A310, H⟩ := H
         replace H : ((laws_wByte.f l1 3).bind fun t368 => (laws_FnRead.j1 kj2 l1 t347 ji18 ((rd_T37 t347 (ji18)).f1) t342 t343 t344 t345 t346 t350 (wrap64 (((rd_T37 t347 (ji18)).f1) - (Int.tmod t367 90))) (wrap64 ((wrap64 (((rd_T37 t347 (ji18)).f1) - (Int.tmod t367 90))) + t368)) t353 t354 t355)) = some r := H
         have A31 := Aside0.mk A310
         clear A310
         replace H := Option.bind_eq_some_iff.mp H
         obtain ⟨t368, A320, H⟩ := H
         replace H : (laws_FnRead.j1 kj2 l1 t347 ji18 ((rd_T37 t347 (ji18)).f1) t342 t343 t344 t345 t346 t350 (wrap64 (((rd_T37 t347 (ji18)).f1) - (Int.tmod t367 90))) (wrap64 ((wrap64 (((rd_T37 t347 (ji18)).f1) - (Int.tmod t367 90))) + t368)) t353 t354 t355) = some r := H
         have A32 := Aside0.mk A320
         clear A320
         have H' := Aside0.mk H
         clear H
         try go_wp2_with (first | ((with_reducible refine gate_callee (f := 16) rfl ?_); refine zL (some 54) Try.func16 #[.slice A1 l1.length c1, .int .i64 2] ?_; (with_reducible refine (laws_wByte.calls _ _ l1 2 t367 _ ?side1 ?side2 A31.out).mono ?_); (case side1 => exact Kd.C_below HR1.out (by repeat (first | (with_reducible first | exact HB.out | apply below_alloc | apply pw_below_drewN | apply below_drew1 | refine below_set ?_ GE356.out | refine below_set ?_ GE357.out) | exact HB.out))); (case side2 => exact HC1.out); rintro e w' ⟨rfl, ⟨nd, rfl⟩⟩; refine ⟨_, rfl, ?_⟩; have hnb33 := NB357_356.out; have hnc33 := NB356_357.out; obtain ⟨hcz34_0, hcz34_1, hcz34_2, hcz34_3, hcz34_4, hcz34_5, hfz34_0, hfz34_1, hfz34_2, hfz34_3, hfz34_4, hfz34_5⟩ := zs6 BK357))
         (repeat rw [zD])
         have n0_ : Aside0 (Kd.R k37 37 ((((((((((((w25.setCell ⟨gb356, 0, none⟩ (.int .i64 t342)).setCell ⟨gb356, 1, none⟩ (.int .i64 t343)).setCell ⟨gb356, 2, none⟩ (.int .i64 t344)).setCell ⟨gb356, 3, none⟩ (.int .i64 t345)).setCell ⟨gb356, 4, none⟩ (.int .i64 t346)).setCell ⟨gb357, 0, none⟩ (.bool t350)).setCell ⟨gb357, 1, none⟩ (.int .i64 t351)).setCell ⟨gb357, 2, none⟩ (.int .i64 t352)).setCell ⟨gb357, 3, none⟩ (.int .i64 t353)).setCell ⟨gb357, 4, none⟩ (.int .i64 t354)).setCell ⟨gb357, 5, none⟩ (.int .i64 t355)).setCell ⟨gb357, 1, none⟩ (.int .i64 (wrap64 (((rd_T37 t347 (ji18)).f1) - (Int.tmod t367 90))))) w.heap.size (fun _ => True) (.slice (some ad365) t347.length co29) t347) := ⟨by (with_reducible repeat (first | apply Kd.R_alloc | apply Kd.R_drewN | apply Kd.R_drew)); exact Kd.R_mono (Kd.R_far (p := ⟨gb357, 1, none⟩) (Kd.R_far (p := ⟨gb357, 5, none⟩) (Kd.R_far (p := ⟨gb357, 4, none⟩) (Kd.R_far (p := ⟨gb357, 3, none⟩) (Kd.R_far (p := ⟨gb357, 2, none⟩) (Kd.R_far (p := ⟨gb357, 1, none⟩) (Kd.R_far (p := ⟨gb357, 0, none⟩) (Kd.R_far (p := ⟨gb356, 4, none⟩) (Kd.R_far (p := ⟨gb356, 3, none⟩) (Kd.R_far (p := ⟨gb356, 2, none⟩) (Kd.R_far (p := ⟨gb356, 1, none⟩) (Kd.R_far (p := ⟨gb356, 0, none⟩) (Kd.R_types (Kd.R_types HO349.out BK356.out (by decide)) BK357.out (by decide)) (fun _ hk => hk.1.2) (.int .i64 t342)) (fun _ hk => hk.1.2) (.int .i64 t343)) (fun _ hk => hk.1.2) (.int .i64 t344)) (fun _ hk => hk.1.2) (.int .i64 t345)) (fun _ hk => hk.1.2) (.int .i64 t346)) (fun _ hk => hk.2) (.bool t350)) (fun _ hk => hk.2) (.int .i64 t351)) (fun _ hk => hk.2) (.int .i64 t352)) (fun _ hk => hk.2) (.int .i64 t353)) (fun _ hk => hk.2) (.int .i64 t354)) (fun _ hk => hk.2) (.int .i64 t355)) (fun _ hk => hk.2) (.int .i64 (wrap64 (((rd_T37 t347 (ji18)).f1) - (Int.tmod t367 90))))) (fun _ hk => trivial)⟩
         have n1_ : Aside0 (((((((((((((w25.setCell ⟨gb356, 0, none⟩ (.int .i64 t342)).setCell ⟨gb356, 1, none⟩ (.int .i64 t343)).setCell ⟨gb356, 2, none⟩ (.int .i64 t344)).setCell ⟨gb356, 3, none⟩ (.int .i64 t345)).setCell ⟨gb356, 4, none⟩ (.int .i64 t346)).setCell ⟨gb357, 0, none⟩ (.bool t350)).setCell ⟨gb357, 1, none⟩ (.int .i64 t351)).setCell ⟨gb357, 2, none⟩ (.int .i64 t352)).setCell ⟨gb357, 3, none⟩ (.int .i64 t353)).setCell ⟨gb357, 4, none⟩ (.int .i64 t354)).setCell ⟨gb357, 5, none⟩ (.int .i64 t355)).setCell ⟨gb357, 1, none⟩ (.int .i64 (wrap64 (((rd_T37 t347 (ji18)).f1) - (Int.tmod t367 90))))).heap[gb356]? = some (.cells #[.int .i64 t342, .int .i64 t343, .int .i64 t344, .int .i64 t345, .int .i64 t346] 24 (0, 0))) := ⟨by (with_reducible repeat (first | refine blk_drewN ?_ _ | refine blk_drew ?_ | refine blk_alloc ?_ _)); refine blk_far ?_ NB356_357.out _; (with_reducible repeat (first | refine blk_drewN ?_ _ | refine blk_drew ?_ | refine blk_alloc ?_ _)); refine blk_far ?_ NB356_357.out _; (with_reducible repeat (first | refine blk_drewN ?_ _ | refine blk_drew ?_ | refine blk_alloc ?_ _)); refine blk_far ?_ NB356_357.out _; (with_reducible repeat (first | refine blk_drewN ?_ _ | refine blk_drew ?_ | refine blk_alloc ?_ _)); refine blk_far ?_ NB356_357.out _; (with_reducible repeat (first | refine blk_drewN ?_ _ | refine blk_drew ?_ | refine blk_alloc ?_ _)); refine blk_far ?_ NB356_357.out _; (with_reducible repeat (first | refine blk_drewN ?_ _ | refine blk_drew ?_ | refine blk_alloc ?_ _)); refine blk_far ?_ NB356_357.out _; (with_reducible repeat (first | refine blk_drewN ?_ _ | refine blk_drew ?_ | refine blk_alloc ?_ _)); refine blk_far ?_ NB356_357.out _; (with_reducible repeat (first | refine blk_drewN ?_ _ | refine blk_drew ?_ | refine blk_alloc ?_ _)); refine blk_put (cs := #[.int .i64 t342, .int .i64 t343, .int .i64 t344, .int .i64 t345, .int .i64 0]) ?_ 4 _ rfl; (with_reducible repeat (first | refine blk_drewN ?_ _ | refine blk_drew ?_ | refine blk_alloc ?_ _)); refine blk_put (cs := #[.int .i64 t342, .int .i64 t343, .int .i64 t344, .int .i64 0, .int .i64 0]) ?_ 3 _ rfl; (with_reducible repeat (first | refine blk_drewN ?_ _ | refine blk_drew ?_ | refine blk_alloc ?_ _)); refine blk_put (cs := #[.int .i64 t342, .int .i64 t343, .int .i64 0, .int .i64 0, .int .i64 0]) ?_ 2 _ rfl; (with_reducible repeat (first | refine blk_drewN ?_ _ | refine blk_drew ?_ | refine blk_alloc ?_ _)); refine blk_put (cs := #[.int .i64 t342, .int .i64 0, .int .i64 0, .int .i64 0, .int .i64 0]) ?_ 1 _ rfl; (with_reducible repeat (first | refine blk_drewN ?_ _ | refine blk_drew ?_ | refine blk_alloc ?_ _)); refine blk_put (cs := #[.int .i64 0, .int .i64 0, .int .i64 0, .int .i64 0, .int .i64 0]) ?_ 0 _ rfl; (with_reducible repeat (first | refine blk_drewN ?_ _ | refine blk_drew ?_ | refine blk_alloc ?_ _)); exact BK356.out⟩
         have n2_ : Aside0 (((((((((((((w25.setCell ⟨gb356, 0, none⟩ (.int .i64 t342)).setCell ⟨gb356, 1, none⟩ (.int .i64 t343)).setCell ⟨gb356, 2, none⟩ (.int .i64 t344)).setCell ⟨gb356, 3, none⟩ (.int .i64 t345)).setCell ⟨gb356, 4, none⟩ (.int .i64 t346)).setCell ⟨gb357, 0, none⟩ (.bool t350)).setCell ⟨gb357, 1, none⟩ (.int .i64 t351)).setCell ⟨gb357, 2, none⟩ (.int .i64 t352)).setCell ⟨gb357, 3, none⟩ (.int .i64 t353)).setCell ⟨gb357, 4, none⟩ (.int .i64 t354)).setCell ⟨gb357, 5, none⟩ (.int .i64 t355)).setCell ⟨gb357, 1, none⟩ (.int .i64 (wrap64 (((rd_T37 t347 (ji18)).f1) - (Int.tmod t367 90))))).heap[gb357]? = some (.cells #[.bool t350, .int .i64 (wrap64 (((rd_T37 t347 (ji18)).f1) - (Int.tmod t367 90))), .int .i64 t352, .int .i64 t353, .int .i64 t354, .int .i64 t355] 29 (0, 0))) := ⟨by (with_reducible repeat (first | refine blk_drewN ?_ _ | refine blk_drew ?_ | refine blk_alloc ?_ _)); refine blk_put (cs := #[.bool t350, .int .i64 t351, .int .i64 t352, .int .i64 t353, .int .i64 t354, .int .i64 t355]) ?_ 1 _ rfl; (with_reducible repeat (first | refine blk_drewN ?_ _ | refine blk_drew ?_ | refine blk_alloc ?_ _)); refine blk_put (cs := #[.bool t350, .int .i64 t351, .int .i64 t352, .int .i64 t353, .int .i64 t354, .int .i64 0]) ?_ 5 _ rfl; (with_reducible repeat (first | refine blk_drewN ?_ _ | refine blk_drew ?_ | refine blk_alloc ?_ _)); refine blk_put (cs := #[.bool t350, .int .i64 t351, .int .i64 t352, .int .i64 t353, .int .i64 0, .int .i64 0]) ?_ 4 _ rfl; (with_reducible repeat (first | refine blk_drewN ?_ _ | refine blk_drew ?_ | refine blk_alloc ?_ _)); refine blk_put (cs := #[.bool t350, .int .i64 t351, .int .i64 t352, .int .i64 0, .int .i64 0, .int .i64 0]) ?_ 3 _ rfl; (with_reducible repeat (first | refine blk_drewN ?_ _ | refine blk_drew ?_ | refine blk_alloc ?_ _)); refine blk_put (cs := #[.bool t350, .int .i64 t351, .int .i64 0, .int .i64 0, .int .i64 0, .int .i64 0]) ?_ 2 _ rfl; (with_reducible repeat (first | refine blk_drewN ?_ _ | refine blk_drew ?_ | refine blk_alloc ?_ _)); refine blk_put (cs := #[.bool t350, .int .i64 0, .int .i64 0, .int .i64 0, .int .i64 0, .int .i64 0]) ?_ 1 _ rfl; (with_reducible repeat (first | refine blk_drewN ?_ _ | refine blk_drew ?_ | refine blk_alloc ?_ _)); refine blk_put (cs := #[.bool false, .int .i64 0, .int .i64 0, .int .i64 0, .int .i64 0, .int .i64 0]) ?_ 0 _ rfl; (with_reducible repeat (first | refine blk_drewN ?_ _ | refine blk_drew ?_ | refine blk_alloc ?_ _)); refine blk_far ?_ NB357_356.out _; (with_reducible repeat (first | refine blk_drewN ?_ _ | refine blk_drew ?_ | refine blk_alloc ?_ _)); refine blk_far ?_ NB357_356.out _; (with_reducible repeat (first | refine blk_drewN ?_ _ | refine blk_drew ?_ | refine blk_alloc ?_ _)); refine blk_far ?_ NB357_356.out _; (with_reducible repeat (first | refine blk_drewN ?_ _ | refine blk_drew ?_ | refine blk_alloc ?_ _)); refine blk_far ?_ NB357_356.out _; (with_reducible repeat (first | refine blk_drewN ?_ _ | refine blk_drew ?_ | refine blk_alloc ?_ _)); refine blk_far ?_ NB357_356.out _; (with_reducible repeat (first | refine blk_drewN ?_ _ | refine blk_drew ?_ | refine blk_alloc ?_ _)); exact BK357.out⟩
         have n3_ : Aside0 (Below w.heap.size w ((((((((((((w25.setCell ⟨gb356, 0, none⟩ (.int .i64 t342)).setCell ⟨gb356, 1, none⟩ (.int .i64 t343)).setCell ⟨gb356, 2, none⟩ (.int .i64 t344)).setCell ⟨gb356, 3, none⟩ (.int .i64 t345)).setCell ⟨gb356, 4, none⟩ (.int .i64 t346)).setCell ⟨gb357, 0, none⟩ (.bool t350)).setCell ⟨gb357, 1, none⟩ (.int .i64 t351)).setCell ⟨gb357, 2, none⟩ (.int .i64 t352)).setCell ⟨gb357, 3, none⟩ (.int .i64 t353)).setCell ⟨gb357, 4, none⟩ (.int .i64 t354)).setCell ⟨gb357, 5, none⟩ (.int .i64 t355)).setCell ⟨gb357, 1, none⟩ (.int .i64 (wrap64 (((rd_T37 t347 (ji18)).f1) - (Int.tmod t367 90)))))) := ⟨by repeat (first | (with_reducible first | exact HB.out | apply below_alloc | apply pw_below_drewN | apply below_drew1 | refine below_set ?_ GE356.out | refine below_set ?_ GE357.out) | exact HB.out)⟩
         (try clear HO349)
         (try clear BK356)
         (try clear BK357)
         (try clear HB)
         generalize ((((((((((((w25.setCell ⟨gb356, 0, none⟩ (.int .i64 t342)).setCell ⟨gb356, 1, none⟩ (.int .i64 t343)).setCell ⟨gb356, 2, none⟩ (.int .i64 t344)).setCell ⟨gb356, 3, none⟩ (.int .i64 t345)).setCell ⟨gb356, 4, none⟩ (.int .i64 t346)).setCell ⟨gb357, 0, none⟩ (.bool t350)).setCell ⟨gb357, 1, none⟩ (.int .i64 t351)).setCell ⟨gb357, 2, none⟩ (.int .i64 t352)).setCell ⟨gb357, 3, none⟩ (.int .i64 t353)).setCell ⟨gb357, 4, none⟩ (.int .i64 t354)).setCell ⟨gb357, 5, none⟩ (.int .i64 t355)).setCell ⟨gb357, 1, none⟩ (.int .i64 (wrap64 (((rd_T37 t347 (ji18)).f1) - (Int.tmod t367 90))))) = w35 at n0_ n1_ n2_ n3_ ⊢
         have HO349 := n0_
         have BK356 := n1_
         have BK357 := n2_
         have HB := n3_
         clear n0_ n1_ n2_ n3_
         (try (rw [drewN_self w35]; generalize hq_ : World.drewN w35 _ = w35; have n0_ : Aside0 (Kd.R k37 37 w35 w.heap.size (fun _ => True) (.slice (some ad365) t347.length co29) t347) := ⟨by rw [← hq_]; exact (zr HO349)⟩; have n1_ : Aside0 (w35.heap[gb356]? = some (.cells #[.int .i64 t342, .int .i64 t343, .int .i64 t344, .int .i64 t345, .int .i64 t346] 24 (0, 0))) := ⟨by rw [← hq_]; exact (zy BK356)⟩; have n2_ : Aside0 (w35.heap[gb357]? = some (.cells #[.bool t350, .int .i64 (wrap64 (((rd_T37 t347 (ji18)).f1) - (Int.tmod t367 90))), .int .i64 t352, .int .i64 t353, .int .i64 t354, .int .i64 t355] 29 (0, 0))) := ⟨by rw [← hq_]; exact (zy BK357)⟩; have n3_ : Aside0 (Below w.heap.size w w35) := ⟨by rw [← hq_]; exact (by repeat (first | (with_reducible first | exact HB.out | apply below_alloc | apply pw_below_drewN | apply below_drew1 | refine below_set ?_ GE356.out | refine below_set ?_ GE357.out) | exact HB.out))⟩; clear HO349 BK356 BK357 HB hq_; have HO349 := n0_; have BK356 := n1_; have BK357 := n2_; have HB := n3_; clear n0_ n1_ n2_ n3_))
         have n0_ := Aside0.mk (Kd.R_drew HO349.out)
         have n1_ := Aside0.mk (blk_drew BK356.out)
         have n2_ := Aside0.mk (blk_drew BK357.out)
         have n3_ := Aside0.mk (below_drew1 HB.out)
         clear HO349 BK356 BK357 HB
         have HO349 := n0_
         have BK356 := n1_
         have BK357 := n2_
         have HB := n3_
         clear n0_ n1_ n2_ n3_
         refine start_ (n := 9) (S := fun w' => w'.cell? ⟨gb357, 0, none⟩ = some (.bool t350) ∧ w'.cell? ⟨gb357, 1, none⟩ = some (.int .i64 (wrap64 (((rd_T37 t347 (ji18)).f1) - (Int.tmod t367 90)))) ∧ w'.cell? ⟨gb357, 2, none⟩ = some (.int .i64 t352) ∧ w'.cell? ⟨gb357, 3, none⟩ = some (.int .i64 t353) ∧ w'.cell? ⟨gb357, 4, none⟩ = some (.int .i64 t354) ∧ w'.cell? ⟨gb357, 5, none⟩ = some (.int .i64 t355)) (ds := [8]) #[false, false, false, false, false, false, false, false, false] (by kernel_rfl) rfl rfl ⟨zc BK357 0, zc BK357 1, zc BK357 2, zc BK357 3, zc BK357 4, zc BK357 5⟩ (fun hHeld => ?_); refine with_tabW laws_FnRead.tab10 laws_FnRead.bits10 (fun HT_ HW_ => ?_)
         generalize w35.drew = w36 at HO349 BK356 BK357 HB hHeld ⊢
         refine zp 0 59 (zm 9 1) HT_ ?_
         refine zp 1 60 (zm 9 3) HT_ ?_
         refine zp 3 62 (zm 9 11) HT_ ?_
         refine zt 2 61 (zm 9 15) HT_ HW_ hHeld ?_
         refine zo 4 (some 63) (zm 9 31) HT_ (fun K hK => ?_)
         refine zG Try.func16 #[.slice A1 l1.length c1, .int .i64 3] ?_
         with_reducible refine (laws_wByte.calls _ _ l1 3 t368 _ ?side1 ?side2 A32.out).mono ?_
         (case side1 => repeat (first | exact (Kd.C_below HR1.out HB.out) | (with_reducible refine Kd.C_alloc ?_ _) | (with_reducible refine Kd.C_drewN ?_ _) | (with_reducible refine Kd.C_drew ?_)))
         (case side2 => exact HC1.out)
         rintro e w' ⟨rfl, ⟨nd, rfl⟩⟩
         refine ⟨_, rfl, ?_⟩
         refine hK.out _ _ ⟨zc BK357 0, zc BK357 1, zc BK357 2, zc BK357 3, zc BK357 4, zc BK357 5⟩ (fun hHeld => ?_)
         clear hK K
         refine zn 63 ?_
         refine zp 5 64 (zm 9 63) HT_ ?_
         refine zp 6 65 (zm 9 127) HT_ ?_
         refine zp 7 66 (zm 9 255) HT_ ?_
         refine last_ (i := 8) (N := none) #[true, true, true, true, true, true, true, true, true] rfl rfl (one_of HT_.out (by kernel_rfl)) (by decide) (fun K hK => ?_)
         have hs37 : w36.cell? ⟨gb357, 2, none⟩ = some (.int .i64 t352) := zc BK357 2
         have hfs37 := blk_frozen BK357.out 2
         have hns37_0 := NB356_357.out
         have hms37_0 := NB357_356.out
         refine skip_ (w1 := ?_) (by rfl) rfl ?_ ?_
         rotate_left
         ·go_simp
          rfl
         refine hK.out _ _ ?_
         clear hK K
         refine done_ (done_of HT_.out (by kernel_rfl)) ?_
         try go_wp2
         refine Met.intro ?_
         go_step
         refine meetU ?rel (by kernel_rfl) (by kernel_rfl)
         case rel => exact ⟨_, (wrap64 (((rd_T37 t347 (ji18)).f1) - (Int.tmod t367 90))), (wrap64 ((wrap64 (((rd_T37 t347 (ji18)).f1) - (Int.tmod t367 90))) + t368)), H', ⟨by have := HJ2.out; first | omega | exact Nat.le_refl _⟩, ⟨by (with_reducible repeat (first | apply Kd.R_alloc | apply Kd.R_drewN | apply Kd.R_drew)); exact Kd.R_mono (Kd.R_far (p := ⟨gb357, 2, none⟩) (Kd.R_types HO349.out BK357.out (by decide)) (fun _ hk => hk.2) (.int .i64 (wrap64 ((wrap64 (((rd_T37 t347 (ji18)).f1) - (Int.tmod t367 90))) + t368)))) (fun _ hk => trivial)⟩, ⟨by (with_reducible repeat (first | refine blk_drewN ?_ _ | refine blk_drew ?_ | refine blk_alloc ?_ _)); refine blk_far ?_ NB356_357.out _; (with_reducible repeat (first | refine blk_drewN ?_ _ | refine blk_drew ?_ | refine blk_alloc ?_ _)); exact BK356.out⟩, ⟨by (with_reducible repeat (first | refine blk_drewN ?_ _ | refine blk_drew ?_ | refine blk_alloc ?_ _)); refine blk_put (cs := #[.bool t350, .int .i64 (wrap64 (((rd_T37 t347 (ji18)).f1) - (Int.tmod t367 90))), .int .i64 t352, .int .i64 t353, .int .i64 t354, .int .i64 t355]) ?_ 2 _ rfl; (with_reducible repeat (first | refine blk_drewN ?_ _ | refine blk_drew ?_ | refine blk_alloc ?_ _)); exact BK357.out⟩, ⟨by repeat (first | (with_reducible first | exact HB.out | apply below_alloc | apply pw_below_drewN | apply below_drew1 | refine below_set ?_ GE356.out | refine below_set ?_ GE357.out) | exact HB.out)⟩⟩
        ·rw [if_neg c30] at H
         have c30b0 : ((Int.tmod t366 2) == 0) = false := beq_eq_false_iff_ne.mpr c30
         have c30b1 : ((Int.tmod t366 2) != 0) = true := bne_iff_ne.mpr c30
         (first | rw [c30b0] | (simp only [i64_w, i32_w]; rw [c30b0]) | skip)
         have H' := Aside0.mk H
         clear H
         go_wp2
         refine Met.intro ?_
         go_step
         refine meetU ?rel (by kernel_rfl) (by kernel_rfl)
         case rel => exact ⟨_, (t351), (t352), H', ⟨by have := HJ2.out; first | omega | exact Nat.le_refl _⟩, ⟨by (with_reducible repeat (first | apply Kd.R_alloc | apply Kd.R_drewN | apply Kd.R_drew)); exact Kd.R_mono (Kd.R_far (p := ⟨gb357, 5, none⟩) (Kd.R_far (p := ⟨gb357, 4, none⟩) (Kd.R_far (p := ⟨gb357, 3, none⟩) (Kd.R_far (p := ⟨gb357, 2, none⟩) (Kd.R_far (p := ⟨gb357, 1, none⟩) (Kd.R_far (p := ⟨gb357, 0, none⟩) (Kd.R_far (p := ⟨gb356, 4, none⟩) (Kd.R_far (p := ⟨gb356, 3, none⟩) (Kd.R_far (p := ⟨gb356, 2, none⟩) (Kd.R_far (p := ⟨gb356, 1, none⟩) (Kd.R_far (p := ⟨gb356, 0, none⟩) (Kd.R_types (Kd.R_types HO349.out BK356.out (by decide)) BK357.out (by decide)) (fun _ hk => hk.1.2) (.int .i64 t342)) (fun _ hk => hk.1.2) (.int .i64 t343)) (fun _ hk => hk.1.2) (.int .i64 t344)) (fun _ hk => hk.1.2) (.int .i64 t345)) (fun _ hk => hk.1.2) (.int .i64 t346)) (fun _ hk => hk.2) (.bool t350)) (fun _ hk => hk.2) (.int .i64 t351)) (fun _ hk => hk.2) (.int .i64 t352)) (fun _ hk => hk.2) (.int .i64 t353)) (fun _ hk => hk.2) (.int .i64 t354)) (fun _ hk => hk.2) (.int .i64 t355)) (fun _ hk => trivial)⟩, ⟨by (with_reducible repeat (first | refine blk_drewN ?_ _ | refine blk_drew ?_ | refine blk_alloc ?_ _)); refine blk_far ?_ NB356_357.out _; (with_reducible repeat (first | refine blk_drewN ?_ _ | refine blk_drew ?_ | refine blk_alloc ?_ _)); refine blk_far ?_ NB356_357.out _; (with_reducible repeat (first | refine blk_drewN ?_ _ | refine blk_drew ?_ | refine blk_alloc ?_ _)); refine blk_far ?_ NB356_357.out _; (with_reducible repeat (first | refine blk_drewN ?_ _ | refine blk_drew ?_ | refine blk_alloc ?_ _)); refine blk_far ?_ NB356_357.out _; (with_reducible repeat (first | refine blk_drewN ?_ _ | refine blk_drew ?_ | refine blk_alloc ?_ _)); refine blk_far ?_ NB356_357.out _; (with_reducible repeat (first | refine blk_drewN ?_ _ | refine blk_drew ?_ | refine blk_alloc ?_ _)); refine blk_far ?_ NB356_357.out _; (with_reducible repeat (first | refine blk_drewN ?_ _ | refine blk_drew ?_ | refine blk_alloc ?_ _)); refine blk_put (cs := #[.int .i64 t342, .int .i64 t343, .int .i64 t344, .int .i64 t345, .int .i64 0]) ?_ 4 _ rfl; (with_reducible repeat (first | refine blk_drewN ?_ _ | refine blk_drew ?_ | refine blk_alloc ?_ _)); refine blk_put (cs := #[.int .i64 t342, .int .i64 t343, .int .i64 t344, .int .i64 0, .int .i64 0]) ?_ 3 _ rfl; (with_reducible repeat (first | refine blk_drewN ?_ _ | refine blk_drew ?_ | refine blk_alloc ?_ _)); refine blk_put (cs := #[.int .i64 t342, .int .i64 t343, .int .i64 0, .int .i64 0, .int .i64 0]) ?_ 2 _ rfl; (with_reducible repeat (first | refine blk_drewN ?_ _ | refine blk_drew ?_ | refine blk_alloc ?_ _)); refine blk_put (cs := #[.int .i64 t342, .int .i64 0, .int .i64 0, .int .i64 0, .int .i64 0]) ?_ 1 _ rfl; (with_reducible repeat (first | refine blk_drewN ?_ _ | refine blk_drew ?_ | refine blk_alloc ?_ _)); refine blk_put (cs := #[.int .i64 0, .int .i64 0, .int .i64 0, .int .i64 0, .int .i64 0]) ?_ 0 _ rfl; (with_reducible repeat (first | refine blk_drewN ?_ _ | refine blk_drew ?_ | refine blk_alloc ?_ _)); exact BK356.out⟩, ⟨by (with_reducible repeat (first | refine blk_drewN ?_ _ | refine blk_drew ?_ | refine blk_alloc ?_ _)); refine blk_put (cs := #[.bool t350, .int .i64 t351, .int .i64 t352, .int .i64 t353, .int .i64 t354, .int .i64 0]) ?_ 5 _ rfl; (with_reducible repeat (first | refine blk_drewN ?_ _ | refine blk_drew ?_ | refine blk_alloc ?_ _)); refine blk_put (cs := #[.bool t350, .int .i64 t351, .int .i64 t352, .int .i64 t353, .int .i64 0, .int .i64 0]) ?_ 4 _ rfl; (with_reducible repeat (first | refine blk_drewN ?_ _ | refine blk_drew ?_ | refine blk_alloc ?_ _)); refine blk_put (cs := #[.bool t350, .int .i64 t351, .int .i64 t352, .int .i64 0, .int .i64 0, .int .i64 0]) ?_ 3 _ rfl; (with_reducible repeat (first | refine blk_drewN ?_ _ | refine blk_drew ?_ | refine blk_alloc ?_ _)); refine blk_put (cs := #[.bool t350, .int .i64 t351, .int .i64 0, .int .i64 0, .int .i64 0, .int .i64 0]) ?_ 2 _ rfl; (with_reducible repeat (first | refine blk_drewN ?_ _ | refine blk_drew ?_ | refine blk_alloc ?_ _)); refine blk_put (cs := #[.bool t350, .int .i64 0, .int .i64 0, .int .i64 0, .int .i64 0, .int .i64 0]) ?_ 1 _ rfl; (with_reducible repeat (first | refine blk_drewN ?_ _ | refine blk_drew ?_ | refine blk_alloc ?_ _)); refine blk_put (cs := #[.bool false, .int .i64 0, .int .i64 0, .int .i64 0, .int .i64 0, .int .i64 0]) ?_ 0 _ rfl; (with_reducible repeat (first | refine blk_drewN ?_ _ | refine blk_drew ?_ | refine blk_alloc ?_ _)); refine blk_far ?_ NB357_356.out _; (with_reducible repeat (first | refine blk_drewN ?_ _ | refine blk_drew ?_ | refine blk_alloc ?_ _)); refine blk_far ?_ NB357_356.out _; (with_reducible repeat (first | refine blk_drewN ?_ _ | refine blk_drew ?_ | refine blk_alloc ?_ _)); refine blk_far ?_ NB357_356.out _; (with_reducible repeat (first | refine blk_drewN ?_ _ | refine blk_drew ?_ | refine blk_alloc ?_ _)); refine blk_far ?_ NB357_356.out _; (with_reducible repeat (first | refine blk_drewN ?_ _ | refine blk_drew ?_ | refine blk_alloc ?_ _)); refine blk_far ?_ NB357_356.out _; (with_reducible repeat (first | refine blk_drewN ?_ _ | refine blk_drew ?_ | refine blk_alloc ?_ _)); exact BK357.out⟩, ⟨by repeat (first | (with_reducible first | exact HB.out | apply below_alloc | apply pw_below_drewN | apply below_drew1 | refine below_set ?_ GE356.out | refine below_set ?_ GE357.out) | exact HB.out)⟩⟩
       case rest =>
        intro u_2 wc hcut
        dsimp only [laws_FnRead.mask2, forgetL_s, forgetL_n, forgetL_e1, forgetL_e2]
        clear HC22
        (try clear c1); (try clear c2); (try clear p2); (try clear c3); (try clear p3); (try clear q3); (try clear hx3); (try clear c4); (try clear c4b0); (try clear c4b1); (try clear c5); (try clear p6); (try clear c7); (try clear c7b0); (try clear c7b1); (try clear c7b2); (try clear c12); (try clear c14); (try clear c15); (try clear c16); (try clear c19); (try clear c19b0); (try clear c20); (try clear c20b0); (try clear c26); (try clear c30); (try clear c30b0); (try clear c30b1); (try clear c33); (try clear p36); (try clear q36); (try clear hx36); (try clear hcz13_0); (try clear hcz13_1); (try clear hcz13_2); (try clear hcz13_3); (try clear hcz13_4); (try clear hcz14_0); (try clear hcz14_1); (try clear hcz14_2); (try clear hcz14_3); (try clear hcz14_4); (try clear hcz14_5); (try clear hcz27_0); (try clear hcz27_1); (try clear hcz27_2); (try clear hcz27_3); (try clear hcz27_4); (try clear hcz28_0); (try clear hcz28_1); (try clear hcz28_2); (try clear hcz28_3); (try clear hcz28_4); (try clear hcz28_5); (try clear hcz34_0); (try clear hcz34_1); (try clear hcz34_2); (try clear hcz34_3); (try clear hcz34_4); (try clear hcz34_5); (try clear hfz13_0); (try clear hfz13_1); (try clear hfz13_2); (try clear hfz13_3); (try clear hfz13_4); (try clear hfz14_0); (try clear hfz14_1); (try clear hfz14_2); (try clear hfz14_3); (try clear hfz14_4); (try clear hfz14_5); (try clear hfz27_0); (try clear hfz27_1); (try clear hfz27_2); (try clear hfz27_3); (try clear hfz27_4); (try clear hfz28_0); (try clear hfz28_1); (try clear hfz28_2); (try clear hfz28_3); (try clear hfz28_4); (try clear hfz28_5); (try clear hfz34_0); (try clear hfz34_1); (try clear hfz34_2); (try clear hfz34_3); (try clear hfz34_4); (try clear hfz34_5); (try clear hx365_0); (try clear hx365_1); (try clear p2); (try clear p365); (try clear q365)
        obtain ⟨kq, x358001_21, x358002_21, HA, HJ21, HO_6, BK356, BK357, HB⟩ := hcut
        cases kq with
        | zero => exact absurd HA.out (by simp [laws_FnRead.j1])
        | succ kj21 =>
         have H := HA.out
         clear HA
         simp only [laws_FnRead.j1] at H
         by_cases c38 : 0 ≤ ji18
         ·rw [if_pos c38] at H
          have c38b0 : decide (0 ≤ ji18) = true := decide_eq_true c38
          clear c38
          by_cases c39 : ji18 < (t347.length : Int)
          ·rw [if_pos c39] at H
           have c39b0 : decide (ji18 < (t347.length : Int)) = true := decide_eq_true c39
           clear c39
           replace H := Option.bind_eq_some_iff.mp H
           obtain ⟨⟨t370, t371, t372, t373, t374, t375⟩, A400, H⟩ := H
           replace H : ((spec_Do.f kj21 t342 t343 t344 t345 t346 t347 t350 x358001_21 x358002_21 t353 t354 t355 2 ((rd_T37 t347 ji18).f0)).bind fun bt378 => (if (!(t370 == bt378.1) || ((!(t371 == bt378.2.1) || (!(t372 == bt378.2.2.1))) || (!(t373 == bt378.2.2.2.1) || (!(t374 == bt378.2.2.2.2.1) || (!(t375 == bt378.2.2.2.2.2)))))) = true then (laws_FnRead.j2 kj21 l1 ((rd_T37 t347 (ji18)).f1) true t342 t343 t344 t345 t346 t350 x358001_21 x358002_21 t353 t354 t355 t370 t371 t372 t373 t374 t375) else (if t373 = 0 then (laws_FnRead.j2 kj21 l1 ((rd_T37 t347 (ji18)).f1) (t374 != ji18) t342 t343 t344 t345 t346 t350 x358001_21 x358002_21 t353 t354 t355 t370 t371 t372 t373 t374 t375) else (laws_FnRead.j2 kj21 l1 ((rd_T37 t347 (ji18)).f1) true t342 t343 t344 t345 t346 t350 x358001_21 x358002_21 t353 t354 t355 t370 t371 t372 t373 t374 t375)))) = some r := H
           have A40 := Aside0.mk A400
           clear A400
           have HC41 := Aside0.mk H
           clear H
           try go_wp2
           have n0_ := Aside0.mk (Kd.R_drew HO_6.out)
           have n1_ := Aside0.mk (blk_drew BK356.out)
           have n2_ := Aside0.mk (blk_drew BK357.out)
           have n3_ := Aside0.mk (below_drew1 HB.out)
           clear HO_6 BK356 BK357 HB
           have HO_6 := n0_
           have BK356 := n1_
           have BK357 := n2_
           have HB := n3_
           clear n0_ n1_ n2_ n3_
           have p369 : 0 ≤ (ji18 : Int) := of_decide_eq_true (by first | (with_reducible assumption) | assumption)
           have q369 : ji18 < (t347.length : Int) := of_decide_eq_true (by first | (with_reducible assumption) | assumption)
           obtain ⟨ad369, e369, hx369_0, hx369_1⟩ := at_T37 (Kd.R_reads' HO_6.out).2.2 ji18 p369 q369
           obtain rfl : ad365 = ad369 := (by injection e369)
           replace p369 := eq_true p369
           replace q369 := eq_true q369
           refine start_ (n := 12) (S := fun w' => w'.cell? ⟨gb356, 0, none⟩ = some (.int .i64 t342) ∧ w'.cell? ⟨gb356, 1, none⟩ = some (.int .i64 t343) ∧ w'.cell? ⟨gb356, 2, none⟩ = some (.int .i64 t344) ∧ w'.cell? ⟨gb356, 3, none⟩ = some (.int .i64 t345) ∧ w'.cell? ⟨gb356, 4, none⟩ = some (.int .i64 t346) ∧ w'.cell? ⟨gb357, 0, none⟩ = some (.bool t350) ∧ w'.cell? ⟨gb357, 1, none⟩ = some (.int .i64 x358001_21) ∧ w'.cell? ⟨gb357, 2, none⟩ = some (.int .i64 x358002_21) ∧ w'.cell? ⟨gb357, 3, none⟩ = some (.int .i64 t353) ∧ w'.cell? ⟨gb357, 4, none⟩ = some (.int .i64 t354) ∧ w'.cell? ⟨gb357, 5, none⟩ = some (.int .i64 t355) ∧ w'.cell? (ad365.add ((ji18).toNat * 2)) = some (.int .i64 ((rd_T37 t347 ji18).f0)) ∧ w'.cell? ⟨(ad365.add ((ji18).toNat * 2)).block, (ad365.add ((ji18).toNat * 2)).off + 1, none⟩ = some (.int .i64 ((rd_T37 t347 ji18).f1))) (ds := []) #[false, false, false, false, false, false, false, false, false, false, false, false] (by kernel_rfl) rfl rfl ⟨zc BK356 0, zc BK356 1, zc BK356 2, zc BK356 3, zc BK356 4, zc BK357 0, zc BK357 1, zc BK357 2, zc BK357 3, zc BK357 4, zc BK357 5, hx369_0, hx369_1⟩ (fun hHeld => ?_); refine with_tabW laws_FnRead.tab11 laws_FnRead.bits11 (fun HT_ HW_ => ?_)
           generalize wc.drew = w42 at HO_6 BK356 BK357 HB hx369_0 hx369_1 hHeld ⊢
           refine zp 1 68 (zm 12 2) HT_ ?_
           refine zp 3 70 (zm 12 10) HT_ ?_
           refine zp 4 71 (zm 12 26) HT_ ?_
           refine zp 5 72 (zm 12 58) HT_ ?_
           refine zp 6 73 (zm 12 122) HT_ ?_
           refine zt 0 67 (zm 12 123) HT_ HW_ hHeld ?_
           refine zt 2 69 (zm 12 127) HT_ HW_ hHeld ?_
           refine zt 7 74 (zm 12 255) HT_ HW_ hHeld ?_
           refine zp 8 75 (zm 12 511) HT_ ?_
           refine join_ (σ := Nat) 1 #[true, true, true, true, true, true, true, true, true, true, true, false] (fun s_ => [(76, .agg #[.bool t370, .int .i64 t371, .int .i64 t372, .int .i64 t373, .int .i64 t374, .int .i64 t375]), (10, .pointer (some ⟨s_, 0, none⟩))]) (fun s_ w' => (w'.cell? ⟨gb356, 0, none⟩ = some (.int .i64 t342) ∧ w'.cell? ⟨gb356, 1, none⟩ = some (.int .i64 t343) ∧ w'.cell? ⟨gb356, 2, none⟩ = some (.int .i64 t344) ∧ w'.cell? ⟨gb356, 3, none⟩ = some (.int .i64 t345) ∧ w'.cell? ⟨gb356, 4, none⟩ = some (.int .i64 t346) ∧ w'.cell? ⟨gb357, 0, none⟩ = some (.bool t350) ∧ w'.cell? ⟨gb357, 1, none⟩ = some (.int .i64 x358001_21) ∧ w'.cell? ⟨gb357, 2, none⟩ = some (.int .i64 x358002_21) ∧ w'.cell? ⟨gb357, 3, none⟩ = some (.int .i64 t353) ∧ w'.cell? ⟨gb357, 4, none⟩ = some (.int .i64 t354) ∧ w'.cell? ⟨gb357, 5, none⟩ = some (.int .i64 t355) ∧ w'.cell? (ad365.add ((ji18).toNat * 2)) = some (.int .i64 ((rd_T37 t347 ji18).f0)) ∧ w'.cell? ⟨(ad365.add ((ji18).toNat * 2)).block, (ad365.add ((ji18).toNat * 2)).off + 1, none⟩ = some (.int .i64 ((rd_T37 t347 ji18).f1))) ∧ (Kd.R k37 37 w' w.heap.size (fun _ => True) (.slice (some ad365) t347.length co29) t347) ∧ (w'.heap[gb356]? = some (.cells #[.int .i64 t342, .int .i64 t343, .int .i64 t344, .int .i64 t345, .int .i64 t346] 24 (0, 0))) ∧ (w'.heap[gb357]? = some (.cells #[.bool t350, .int .i64 x358001_21, .int .i64 x358002_21, .int .i64 t353, .int .i64 t354, .int .i64 t355] 29 (0, 0))) ∧ (w'.heap[s_]? = some (.cells #[.bool false, .int .i64 0, .int .i64 0, .int .i64 0, .int .i64 0, .int .i64 0] 29 (0, 0))) ∧ (w.heap.size ≤ s_) ∧ (w.heap.size ≤ s_) ∧ (gb356 ≠ s_) ∧ (s_ ≠ gb356) ∧ (gb357 ≠ s_) ∧ (s_ ≠ gb357) ∧ (Below w.heap.size w w')) ?_ ?_
           rotate_left
           ·intro hCont
            refine two_ (i := 9) (j := 10) (Ni := some 76) (Nj := some 10) #[true, true, true, true, true, true, true, true, true, true, false, false] #[true, true, true, true, true, true, true, true, true, false, true, false] rfl rfl rfl rfl (two_of HT_.out (by kernel_rfl)) (by decide) (by decide) (fun K hK => ?_) (fun K hK => ?_)
            ·skip
             refine goes_ Try.func15 (by kernel_rfl) rfl #[.agg #[.int .i64 t342, .int .i64 t343, .int .i64 t344, .int .i64 t345, .int .i64 t346], .slice (some ad365) t347.length co29, .agg #[.bool t350, .int .i64 x358001_21, .int .i64 x358002_21, .int .i64 t353, .int .i64 t354, .int .i64 t355], .agg #[.int .i64 2, .int .i64 ((rd_T37 t347 ji18).f0)]] (by rfl) rfl rfl (by (try simp only [List.map_toArray, List.map_cons, List.map_nil]); first | done | (simp only [hji18]; rfl) | rfl | (simp only [List.length_drop, List.length_take]; rfl)) ?_
             with_reducible refine (impl_Do.calls kj21 t342 t343 t344 t345 t346 _ _ t347 t350 x358001_21 x358002_21 t353 t354 t355 2 ((rd_T37 t347 ji18).f0) t370 t371 t372 t373 t374 t375 _ ?side1 ?side2 A40.out).mono ?_
             (case side1 => repeat (first | exact (Kd.R_reads' HO_6.out).2.2 | (with_reducible refine Kd.C_alloc ?_ _) | (with_reducible refine Kd.C_drewN ?_ _) | (with_reducible refine Kd.C_drew ?_)))
             (case side2 => exact (Kd.R_reads' HO_6.out).2.1)
             rintro e w43 ⟨rfl, hb⟩
             have HS11_ := (hb.cell (World.block_lt_of_cell? _ _ (hHeld.2.2.2.2.2.2.2.2.2.2.2.1))).trans (hHeld.2.2.2.2.2.2.2.2.2.2.2.1)
             have HS12_ := (hb.cell (World.block_lt_of_cell? _ _ (hHeld.2.2.2.2.2.2.2.2.2.2.2.2))).trans (hHeld.2.2.2.2.2.2.2.2.2.2.2.2)
             refine ⟨_, rfl, ?_⟩
             replace BK356 := zb BK356 hb
             replace BK357 := zb BK357 hb
             replace HB := zB HB hb
             replace HO_6 := Aside0.mk (Kd.R_below (zr HO_6) hb)
             (try clear hb)
             refine hK.out _ _ ⟨zc BK356 0, zc BK356 1, zc BK356 2, zc BK356 3, zc BK356 4, zc BK357 0, zc BK357 1, zc BK357 2, zc BK357 3, zc BK357 4, zc BK357 5, HS11_, HS12_⟩ (fun hHeld => ?_)
             clear hK K
             refine zn 76 ?_
             refine zo 10 (some 10) (zm 12 2047) HT_ (fun K hK => ?_)
             refine box_step ?hg (N := 10) ?hd (cs := #[.bool false, .int .i64 0, .int .i64 0, .int .i64 0, .int .i64 0, .int .i64 0]) (t := 29) ?hr ?_; (case hd => rfl); (case hg => rfl); (case hr => first | (go_simp; done) | (go_simp; rfl))
             intro gb376 hg w44 hbox hb
             have HS11_ := (hb.cell (World.block_lt_of_cell? _ _ (hHeld.2.2.2.2.2.2.2.2.2.2.2.1))).trans (hHeld.2.2.2.2.2.2.2.2.2.2.2.1)
             have HS12_ := (hb.cell (World.block_lt_of_cell? _ _ (hHeld.2.2.2.2.2.2.2.2.2.2.2.2))).trans (hHeld.2.2.2.2.2.2.2.2.2.2.2.2)
             have BK376 := Aside0.mk (hbox)
             have GW376 := zge HB hg
             have GE376 := GW376
             have NB356_376 := zl BK356 hg
             have NB376_356 := zg BK356 hg
             have NB357_376 := zl BK357 hg
             have NB376_357 := zg BK357 hg
             replace BK356 := zb BK356 hb
             replace BK357 := zb BK357 hb
             replace HB := zB HB hb
             replace HO_6 := Aside0.mk (Kd.R_below (zr HO_6) hb)
             clear hb hbox hg
             refine hK.out _ _ ⟨zc BK356 0, zc BK356 1, zc BK356 2, zc BK356 3, zc BK356 4, zc BK357 0, zc BK357 1, zc BK357 2, zc BK357 3, zc BK357 4, zc BK357 5, HS11_, HS12_⟩ (fun hHeld => ?_)
             clear hK K
             refine zn 10 ?_
             exact norm_ (by simp only [putAll, Act.put, List.setIfInBounds_toArray, List.set_cons_zero, List.set_cons_succ]) (hCont (gb376) _ ⟨hHeld, (zr HO_6), (zy BK356), (zy BK357), (zy BK376), GW376.out, GE376.out, NB356_376.out, NB376_356.out, NB357_376.out, NB376_357.out, (by repeat (first | (with_reducible first | exact HB.out | apply below_alloc | apply pw_below_drewN | apply below_drew1 | refine below_set ?_ GE356.out | refine below_set ?_ GE357.out | refine below_set ?_ GE376.out) | exact HB.out))⟩)
            ·skip
             refine box_step ?hg (N := 10) ?hd (cs := #[.bool false, .int .i64 0, .int .i64 0, .int .i64 0, .int .i64 0, .int .i64 0]) (t := 29) ?hr ?_; (case hd => rfl); (case hg => rfl); (case hr => first | (go_simp; done) | (go_simp; rfl))
             intro gb376 hg w43 hbox hb
             have HS11_ := (hb.cell (World.block_lt_of_cell? _ _ (hHeld.2.2.2.2.2.2.2.2.2.2.2.1))).trans (hHeld.2.2.2.2.2.2.2.2.2.2.2.1)
             have HS12_ := (hb.cell (World.block_lt_of_cell? _ _ (hHeld.2.2.2.2.2.2.2.2.2.2.2.2))).trans (hHeld.2.2.2.2.2.2.2.2.2.2.2.2)
             have BK376 := Aside0.mk (hbox)
             have GW376 := zge HB hg
             have GE376 := GW376
             have NB356_376 := zl BK356 hg
             have NB376_356 := zg BK356 hg
             have NB357_376 := zl BK357 hg
             have NB376_357 := zg BK357 hg
             replace BK356 := zb BK356 hb
             replace BK357 := zb BK357 hb
             replace HB := zB HB hb
             replace HO_6 := Aside0.mk (Kd.R_below (zr HO_6) hb)
             clear hb hbox hg
             refine hK.out _ _ ⟨zc BK356 0, zc BK356 1, zc BK356 2, zc BK356 3, zc BK356 4, zc BK357 0, zc BK357 1, zc BK357 2, zc BK357 3, zc BK357 4, zc BK357 5, HS11_, HS12_⟩ (fun hHeld => ?_)
             clear hK K
             refine zn 10 ?_
             refine zo 9 (some 76) (zm 12 2047) HT_ (fun K hK => ?_)
             refine goes_ Try.func15 (by kernel_rfl) rfl #[.agg #[.int .i64 t342, .int .i64 t343, .int .i64 t344, .int .i64 t345, .int .i64 t346], .slice (some ad365) t347.length co29, .agg #[.bool t350, .int .i64 x358001_21, .int .i64 x358002_21, .int .i64 t353, .int .i64 t354, .int .i64 t355], .agg #[.int .i64 2, .int .i64 ((rd_T37 t347 ji18).f0)]] (by rfl) rfl rfl (by (try simp only [List.map_toArray, List.map_cons, List.map_nil]); first | done | (simp only [hji18]; rfl) | rfl | (simp only [List.length_drop, List.length_take]; rfl)) ?_
             with_reducible refine (impl_Do.calls kj21 t342 t343 t344 t345 t346 _ _ t347 t350 x358001_21 x358002_21 t353 t354 t355 2 ((rd_T37 t347 ji18).f0) t370 t371 t372 t373 t374 t375 _ ?side1 ?side2 A40.out).mono ?_
             (case side1 => repeat (first | exact (Kd.R_reads' HO_6.out).2.2 | (with_reducible refine Kd.C_alloc ?_ _) | (with_reducible refine Kd.C_drewN ?_ _) | (with_reducible refine Kd.C_drew ?_)))
             (case side2 => exact (Kd.R_reads' HO_6.out).2.1)
             rintro e w44 ⟨rfl, hb⟩
             have HS11_ := (hb.cell (World.block_lt_of_cell? _ _ (hHeld.2.2.2.2.2.2.2.2.2.2.2.1))).trans (hHeld.2.2.2.2.2.2.2.2.2.2.2.1)
             have HS12_ := (hb.cell (World.block_lt_of_cell? _ _ (hHeld.2.2.2.2.2.2.2.2.2.2.2.2))).trans (hHeld.2.2.2.2.2.2.2.2.2.2.2.2)
             refine ⟨_, rfl, ?_⟩
             replace BK356 := zb BK356 hb
             replace BK357 := zb BK357 hb
             replace BK376 := zb BK376 hb
             replace HB := zB HB hb
             replace HO_6 := Aside0.mk (Kd.R_below (zr HO_6) hb)
             (try clear hb)
             refine hK.out _ _ ⟨zc BK356 0, zc BK356 1, zc BK356 2, zc BK356 3, zc BK356 4, zc BK357 0, zc BK357 1, zc BK357 2, zc BK357 3, zc BK357 4, zc BK357 5, HS11_, HS12_⟩ (fun hHeld => ?_)
             clear hK K
             refine zn 76 ?_
             exact norm_ (by simp only [putAll, Act.put, List.setIfInBounds_toArray, List.set_cons_zero, List.set_cons_succ]) (hCont (gb376) _ ⟨hHeld, (zr HO_6), (zy BK356), (zy BK357), (zy BK376), GW376.out, GE376.out, NB356_376.out, NB376_356.out, NB357_376.out, NB376_357.out, (by repeat (first | (with_reducible first | exact HB.out | apply below_alloc | apply pw_below_drewN | apply below_drew1 | refine below_set ?_ GE356.out | refine below_set ?_ GE357.out | refine below_set ?_ GE376.out) | exact HB.out))⟩)
           rintro gb376 w45 ⟨hS_, h0_, h1_, h2_, h3_, h4_, h5_, h6_, h7_, h8_, h9_, h10_⟩
           have n0_ : Aside0 (Kd.R k37 37 w45 w.heap.size (fun _ => True) (.slice (some ad365) t347.length co29) t347) := ⟨h0_⟩
           have n1_ : Aside0 (w45.heap[gb356]? = some (.cells #[.int .i64 t342, .int .i64 t343, .int .i64 t344, .int .i64 t345, .int .i64 t346] 24 (0, 0))) := ⟨h1_⟩
           have n2_ : Aside0 (w45.heap[gb357]? = some (.cells #[.bool t350, .int .i64 x358001_21, .int .i64 x358002_21, .int .i64 t353, .int .i64 t354, .int .i64 t355] 29 (0, 0))) := ⟨h2_⟩
           have n3_ : Aside0 (w45.heap[gb376]? = some (.cells #[.bool false, .int .i64 0, .int .i64 0, .int .i64 0, .int .i64 0, .int .i64 0] 29 (0, 0))) := ⟨h3_⟩
           have n4_ : Aside0 (w.heap.size ≤ gb376) := ⟨h4_⟩
           have n5_ : Aside0 (w.heap.size ≤ gb376) := ⟨h5_⟩
           have n6_ : Aside0 (gb356 ≠ gb376) := ⟨h6_⟩
           have n7_ : Aside0 (gb376 ≠ gb356) := ⟨h7_⟩
           have n8_ : Aside0 (gb357 ≠ gb376) := ⟨h8_⟩
           have n9_ : Aside0 (gb376 ≠ gb357) := ⟨h9_⟩
           have n10_ : Aside0 (Below w.heap.size w w45) := ⟨h10_⟩
           clear HO_6 BK356 BK357 HB h0_ h1_ h2_ h3_ h4_ h5_ h6_ h7_ h8_ h9_ h10_
           have HO_6 := n0_
           have BK356 := n1_
           have BK357 := n2_
           have BK376 := n3_
           have GW376 := n4_
           have GE376 := n5_
           have NB356_376 := n6_
           have NB376_356 := n7_
           have NB357_376 := n8_
           have NB376_357 := n9_
           have HB := n10_
           clear n0_ n1_ n2_ n3_ n4_ n5_ n6_ n7_ n8_ n9_ n10_
           have hHeld : w45.cell? ⟨gb356, 0, none⟩ = some (.int .i64 t342) ∧ w45.cell? ⟨gb356, 1, none⟩ = some (.int .i64 t343) ∧ w45.cell? ⟨gb356, 2, none⟩ = some (.int .i64 t344) ∧ w45.cell? ⟨gb356, 3, none⟩ = some (.int .i64 t345) ∧ w45.cell? ⟨gb356, 4, none⟩ = some (.int .i64 t346) ∧ w45.cell? ⟨gb357, 0, none⟩ = some (.bool t350) ∧ w45.cell? ⟨gb357, 1, none⟩ = some (.int .i64 x358001_21) ∧ w45.cell? ⟨gb357, 2, none⟩ = some (.int .i64 x358002_21) ∧ w45.cell? ⟨gb357, 3, none⟩ = some (.int .i64 t353) ∧ w45.cell? ⟨gb357, 4, none⟩ = some (.int .i64 t354) ∧ w45.cell? ⟨gb357, 5, none⟩ = some (.int .i64 t355) ∧ w45.cell? (ad365.add ((ji18).toNat * 2)) = some (.int .i64 ((rd_T37 t347 ji18).f0)) ∧ w45.cell? ⟨(ad365.add ((ji18).toNat * 2)).block, (ad365.add ((ji18).toNat * 2)).off + 1, none⟩ = some (.int .i64 ((rd_T37 t347 ji18).f1)) := hS_
           refine norm_ (a' := ?_) ?_ ?_
           rotate_left
           ·simp only [putAll, Act.put, List.setIfInBounds_toArray, List.set_cons_zero, List.set_cons_succ]
            rfl
           refine zo 11 (none) (zm 12 4095) HT_ (fun K hK => ?_)
           have hs46 : w45.cell? ⟨gb376, 0, none⟩ = some (.bool false) := zc BK376 0
           have hfs46 := blk_frozen BK376.out 0
           have hns46_0 := NB356_376.out
           have hns46_1 := NB357_376.out
           have hms46_0 := NB376_356.out
           have hms46_1 := NB376_357.out
           have hs47 : w45.cell? ⟨gb376, 1, none⟩ = some (.int .i64 0) := zc BK376 1
           have hfs47 := blk_frozen BK376.out 1
           have hns47_0 := NB356_376.out
           have hns47_1 := NB357_376.out
           have hms47_0 := NB376_356.out
           have hms47_1 := NB376_357.out
           have hs48 : w45.cell? ⟨gb376, 2, none⟩ = some (.int .i64 0) := zc BK376 2
           have hfs48 := blk_frozen BK376.out 2
           have hns48_0 := NB356_376.out
           have hns48_1 := NB357_376.out
           have hms48_0 := NB376_356.out
           have hms48_1 := NB376_357.out
           have hs49 : w45.cell? ⟨gb376, 3, none⟩ = some (.int .i64 0) := zc BK376 3
           have hfs49 := blk_frozen BK376.out 3
           have hns49_0 := NB356_376.out
           have hns49_1 := NB357_376.out
           have hms49_0 := NB376_356.out
           have hms49_1 := NB376_357.out
           have hs50 : w45.cell? ⟨gb376, 4, none⟩ = some (.int .i64 0) := zc BK376 4
           have hfs50 := blk_frozen BK376.out 4
           have hns50_0 := NB356_376.out
           have hns50_1 := NB357_376.out
           have hms50_0 := NB376_356.out
           have hms50_1 := NB376_357.out
           have hs51 : w45.cell? ⟨gb376, 5, none⟩ = some (.int .i64 0) := zc BK376 5
           have hfs51 := blk_frozen BK376.out 5
           have hns51_0 := NB356_376.out
           have hns51_1 := NB357_376.out
           have hms51_0 := NB376_356.out
           have hms51_1 := NB376_357.out
           refine skip_ (w1 := ?_) (by rfl) rfl ?_ ?_
           rotate_left
           ·go_simp
            rfl
           refine hK.out _ _ ⟨((cell_far (p := ⟨gb376, _, none⟩) NB356_376.out _).trans (((cell_far (p := ⟨gb376, _, none⟩) NB356_376.out _).trans (((cell_far (p := ⟨gb376, _, none⟩) NB356_376.out _).trans (((cell_far (p := ⟨gb376, _, none⟩) NB356_376.out _).trans (((cell_far (p := ⟨gb376, _, none⟩) NB356_376.out _).trans (((cell_far (p := ⟨gb376, _, none⟩) NB356_376.out _).trans (hHeld.1)))))))))))), ((cell_far (p := ⟨gb376, _, none⟩) NB356_376.out _).trans (((cell_far (p := ⟨gb376, _, none⟩) NB356_376.out _).trans (((cell_far (p := ⟨gb376, _, none⟩) NB356_376.out _).trans (((cell_far (p := ⟨gb376, _, none⟩) NB356_376.out _).trans (((cell_far (p := ⟨gb376, _, none⟩) NB356_376.out _).trans (((cell_far (p := ⟨gb376, _, none⟩) NB356_376.out _).trans (hHeld.2.1)))))))))))), ((cell_far (p := ⟨gb376, _, none⟩) NB356_376.out _).trans (((cell_far (p := ⟨gb376, _, none⟩) NB356_376.out _).trans (((cell_far (p := ⟨gb376, _, none⟩) NB356_376.out _).trans (((cell_far (p := ⟨gb376, _, none⟩) NB356_376.out _).trans (((cell_far (p := ⟨gb376, _, none⟩) NB356_376.out _).trans (((cell_far (p := ⟨gb376, _, none⟩) NB356_376.out _).trans (hHeld.2.2.1)))))))))))), ((cell_far (p := ⟨gb376, _, none⟩) NB356_376.out _).trans (((cell_far (p := ⟨gb376, _, none⟩) NB356_376.out _).trans (((cell_far (p := ⟨gb376, _, none⟩) NB356_376.out _).trans (((cell_far (p := ⟨gb376, _, none⟩) NB356_376.out _).trans (((cell_far (p := ⟨gb376, _, none⟩) NB356_376.out _).trans (((cell_far (p := ⟨gb376, _, none⟩) NB356_376.out _).trans (hHeld.2.2.2.1)))))))))))), ((cell_far (p := ⟨gb376, _, none⟩) NB356_376.out _).trans (((cell_far (p := ⟨gb376, _, none⟩) NB356_376.out _).trans (((cell_far (p := ⟨gb376, _, none⟩) NB356_376.out _).trans (((cell_far (p := ⟨gb376, _, none⟩) NB356_376.out _).trans (((cell_far (p := ⟨gb376, _, none⟩) NB356_376.out _).trans (((cell_far (p := ⟨gb376, _, none⟩) NB356_376.out _).trans (hHeld.2.2.2.2.1)))))))))))), ((cell_far (p := ⟨gb376, _, none⟩) NB357_376.out _).trans (((cell_far (p := ⟨gb376, _, none⟩) NB357_376.out _).trans (((cell_far (p := ⟨gb376, _, none⟩) NB357_376.out _).trans (((cell_far (p := ⟨gb376, _, none⟩) NB357_376.out _).trans (((cell_far (p := ⟨gb376, _, none⟩) NB357_376.out _).trans (((cell_far (p := ⟨gb376, _, none⟩) NB357_376.out _).trans (hHeld.2.2.2.2.2.1)))))))))))), ((cell_far (p := ⟨gb376, _, none⟩) NB357_376.out _).trans (((cell_far (p := ⟨gb376, _, none⟩) NB357_376.out _).trans (((cell_far (p := ⟨gb376, _, none⟩) NB357_376.out _).trans (((cell_far (p := ⟨gb376, _, none⟩) NB357_376.out _).trans (((cell_far (p := ⟨gb376, _, none⟩) NB357_376.out _).trans (((cell_far (p := ⟨gb376, _, none⟩) NB357_376.out _).trans (hHeld.2.2.2.2.2.2.1)))))))))))), ((cell_far (p := ⟨gb376, _, none⟩) NB357_376.out _).trans (((cell_far (p := ⟨gb376, _, none⟩) NB357_376.out _).trans (((cell_far (p := ⟨gb376, _, none⟩) NB357_376.out _).trans (((cell_far (p := ⟨gb376, _, none⟩) NB357_376.out _).trans (((cell_far (p := ⟨gb376, _, none⟩) NB357_376.out _).trans (((cell_far (p := ⟨gb376, _, none⟩) NB357_376.out _).trans (hHeld.2.2.2.2.2.2.2.1)))))))))))), ((cell_far (p := ⟨gb376, _, none⟩) NB357_376.out _).trans (((cell_far (p := ⟨gb376, _, none⟩) NB357_376.out _).trans (((cell_far (p := ⟨gb376, _, none⟩) NB357_376.out _).trans (((cell_far (p := ⟨gb376, _, none⟩) NB357_376.out _).trans (((cell_far (p := ⟨gb376, _, none⟩) NB357_376.out _).trans (((cell_far (p := ⟨gb376, _, none⟩) NB357_376.out _).trans (hHeld.2.2.2.2.2.2.2.2.1)))))))))))), ((cell_far (p := ⟨gb376, _, none⟩) NB357_376.out _).trans (((cell_far (p := ⟨gb376, _, none⟩) NB357_376.out _).trans (((cell_far (p := ⟨gb376, _, none⟩) NB357_376.out _).trans (((cell_far (p := ⟨gb376, _, none⟩) NB357_376.out _).trans (((cell_far (p := ⟨gb376, _, none⟩) NB357_376.out _).trans (((cell_far (p := ⟨gb376, _, none⟩) NB357_376.out _).trans (hHeld.2.2.2.2.2.2.2.2.2.1)))))))))))), ((cell_far (p := ⟨gb376, _, none⟩) NB357_376.out _).trans (((cell_far (p := ⟨gb376, _, none⟩) NB357_376.out _).trans (((cell_far (p := ⟨gb376, _, none⟩) NB357_376.out _).trans (((cell_far (p := ⟨gb376, _, none⟩) NB357_376.out _).trans (((cell_far (p := ⟨gb376, _, none⟩) NB357_376.out _).trans (((cell_far (p := ⟨gb376, _, none⟩) NB357_376.out _).trans (hHeld.2.2.2.2.2.2.2.2.2.2.1)))))))))))), ((cell_far (p := ⟨gb376, _, none⟩) (by first | exact Kd.own_blk (Kd.R_ne HO_6.out BK376.out (by decide)) | (rw [add_block]; exact Kd.own_blk (Kd.R_ne HO_6.out BK376.out (by decide))) | (show (Addr.add _ _).block ≠ _; rw [add_block]; exact Kd.own_blk (Kd.R_ne HO_6.out BK376.out (by decide))) | (dsimp only; exact Kd.own_blk (Kd.R_ne HO_6.out BK376.out (by decide)))) _).trans (((cell_far (p := ⟨gb376, _, none⟩) (by first | exact Kd.own_blk (Kd.R_ne HO_6.out BK376.out (by decide)) | (rw [add_block]; exact Kd.own_blk (Kd.R_ne HO_6.out BK376.out (by decide))) | (show (Addr.add _ _).block ≠ _; rw [add_block]; exact Kd.own_blk (Kd.R_ne HO_6.out BK376.out (by decide))) | (dsimp only; exact Kd.own_blk (Kd.R_ne HO_6.out BK376.out (by decide)))) _).trans (((cell_far (p := ⟨gb376, _, none⟩) (by first | exact Kd.own_blk (Kd.R_ne HO_6.out BK376.out (by decide)) | (rw [add_block]; exact Kd.own_blk (Kd.R_ne HO_6.out BK376.out (by decide))) | (show (Addr.add _ _).block ≠ _; rw [add_block]; exact Kd.own_blk (Kd.R_ne HO_6.out BK376.out (by decide))) | (dsimp only; exact Kd.own_blk (Kd.R_ne HO_6.out BK376.out (by decide)))) _).trans (((cell_far (p := ⟨gb376, _, none⟩) (by first | exact Kd.own_blk (Kd.R_ne HO_6.out BK376.out (by decide)) | (rw [add_block]; exact Kd.own_blk (Kd.R_ne HO_6.out BK376.out (by decide))) | (show (Addr.add _ _).block ≠ _; rw [add_block]; exact Kd.own_blk (Kd.R_ne HO_6.out BK376.out (by decide))) | (dsimp only; exact Kd.own_blk (Kd.R_ne HO_6.out BK376.out (by decide)))) _).trans (((cell_far (p := ⟨gb376, _, none⟩) (by first | exact Kd.own_blk (Kd.R_ne HO_6.out BK376.out (by decide)) | (rw [add_block]; exact Kd.own_blk (Kd.R_ne HO_6.out BK376.out (by decide))) | (show (Addr.add _ _).block ≠ _; rw [add_block]; exact Kd.own_blk (Kd.R_ne HO_6.out BK376.out (by decide))) | (dsimp only; exact Kd.own_blk (Kd.R_ne HO_6.out BK376.out (by decide)))) _).trans (((cell_far (p := ⟨gb376, _, none⟩) (by first | exact Kd.own_blk (Kd.R_ne HO_6.out BK376.out (by decide)) | (rw [add_block]; exact Kd.own_blk (Kd.R_ne HO_6.out BK376.out (by decide))) | (show (Addr.add _ _).block ≠ _; rw [add_block]; exact Kd.own_blk (Kd.R_ne HO_6.out BK376.out (by decide))) | (dsimp only; exact Kd.own_blk (Kd.R_ne HO_6.out BK376.out (by decide)))) _).trans (hHeld.2.2.2.2.2.2.2.2.2.2.2.1)))))))))))), ((cell_far (p := ⟨gb376, _, none⟩) (by first | exact Kd.own_blk (Kd.R_ne HO_6.out BK376.out (by decide)) | (rw [add_block]; exact Kd.own_blk (Kd.R_ne HO_6.out BK376.out (by decide))) | (show (Addr.add _ _).block ≠ _; rw [add_block]; exact Kd.own_blk (Kd.R_ne HO_6.out BK376.out (by decide))) | (dsimp only; exact Kd.own_blk (Kd.R_ne HO_6.out BK376.out (by decide)))) _).trans (((cell_far (p := ⟨gb376, _, none⟩) (by first | exact Kd.own_blk (Kd.R_ne HO_6.out BK376.out (by decide)) | (rw [add_block]; exact Kd.own_blk (Kd.R_ne HO_6.out BK376.out (by decide))) | (show (Addr.add _ _).block ≠ _; rw [add_block]; exact Kd.own_blk (Kd.R_ne HO_6.out BK376.out (by decide))) | (dsimp only; exact Kd.own_blk (Kd.R_ne HO_6.out BK376.out (by decide)))) _).trans (((cell_far (p := ⟨gb376, _, none⟩) (by first | exact Kd.own_blk (Kd.R_ne HO_6.out BK376.out (by decide)) | (rw [add_block]; exact Kd.own_blk (Kd.R_ne HO_6.out BK376.out (by decide))) | (show (Addr.add _ _).block ≠ _; rw [add_block]; exact Kd.own_blk (Kd.R_ne HO_6.out BK376.out (by decide))) | (dsimp only; exact Kd.own_blk (Kd.R_ne HO_6.out BK376.out (by decide)))) _).trans (((cell_far (p := ⟨gb376, _, none⟩) (by first | exact Kd.own_blk (Kd.R_ne HO_6.out BK376.out (by decide)) | (rw [add_block]; exact Kd.own_blk (Kd.R_ne HO_6.out BK376.out (by decide))) | (show (Addr.add _ _).block ≠ _; rw [add_block]; exact Kd.own_blk (Kd.R_ne HO_6.out BK376.out (by decide))) | (dsimp only; exact Kd.own_blk (Kd.R_ne HO_6.out BK376.out (by decide)))) _).trans (((cell_far (p := ⟨gb376, _, none⟩) (by first | exact Kd.own_blk (Kd.R_ne HO_6.out BK376.out (by decide)) | (rw [add_block]; exact Kd.own_blk (Kd.R_ne HO_6.out BK376.out (by decide))) | (show (Addr.add _ _).block ≠ _; rw [add_block]; exact Kd.own_blk (Kd.R_ne HO_6.out BK376.out (by decide))) | (dsimp only; exact Kd.own_blk (Kd.R_ne HO_6.out BK376.out (by decide)))) _).trans (((cell_far (p := ⟨gb376, _, none⟩) (by first | exact Kd.own_blk (Kd.R_ne HO_6.out BK376.out (by decide)) | (rw [add_block]; exact Kd.own_blk (Kd.R_ne HO_6.out BK376.out (by decide))) | (show (Addr.add _ _).block ≠ _; rw [add_block]; exact Kd.own_blk (Kd.R_ne HO_6.out BK376.out (by decide))) | (dsimp only; exact Kd.own_blk (Kd.R_ne HO_6.out BK376.out (by decide)))) _).trans (hHeld.2.2.2.2.2.2.2.2.2.2.2.2))))))))))))⟩ (fun hHeld => ?_)
           clear hK K
           refine done_ (done_of HT_.out (by kernel_rfl)) ?_
           go_upto_region 12 with (fail)
           refine wp_cutU laws_FnRead.mask3 (fun u_3 wc => ∃ (kq : Nat) (x99_40 : Bool), (u_3 99) = .bool x99_40 ∧ Aside0 (laws_FnRead.j2 kq l1 ((rd_T37 t347 (ji18)).f1) x99_40 t342 t343 t344 t345 t346 t350 x358001_21 x358002_21 t353 t354 t355 t370 t371 t372 t373 t374 t375 = some r) ∧ Aside0 (kq ≤ kj21) ∧ Aside0 (wc.heap[gb356]? = some (.cells #[.int .i64 t342, .int .i64 t343, .int .i64 t344, .int .i64 t345, .int .i64 t346] 24 (0, 0))) ∧ Aside0 (wc.heap[gb357]? = some (.cells #[.bool t350, .int .i64 x358001_21, .int .i64 x358002_21, .int .i64 t353, .int .i64 t354, .int .i64 t355] 29 (0, 0))) ∧ Aside0 (wc.heap[gb376]? = some (.cells #[.bool t370, .int .i64 t371, .int .i64 t372, .int .i64 t373, .int .i64 t374, .int .i64 t375] 29 (0, 0))) ∧ Aside0 (Below w.heap.size w wc)) ?rest ?first
           case first =>
            intro _ _ _ _
            have H := HC41.out
            clear HC41
            replace H := Option.bind_eq_some_iff.mp H
            obtain ⟨⟨t378, t379, t380, t381, t382, t383⟩, A520, H⟩ := H
            replace H : (if (!(t370 == t378) || ((!(t371 == t379) || (!(t372 == t380))) || (!(t373 == t381) || (!(t374 == t382) || (!(t375 == t383)))))) = true then (laws_FnRead.j2 kj21 l1 ((rd_T37 t347 (ji18)).f1) true t342 t343 t344 t345 t346 t350 x358001_21 x358002_21 t353 t354 t355 t370 t371 t372 t373 t374 t375) else (if t373 = 0 then (laws_FnRead.j2 kj21 l1 ((rd_T37 t347 (ji18)).f1) (t374 != ji18) t342 t343 t344 t345 t346 t350 x358001_21 x358002_21 t353 t354 t355 t370 t371 t372 t373 t374 t375) else (laws_FnRead.j2 kj21 l1 ((rd_T37 t347 (ji18)).f1) true t342 t343 t344 t345 t346 t350 x358001_21 x358002_21 t353 t354 t355 t370 t371 t372 t373 t374 t375))) = some r := H
            have A52 := Aside0.mk A520
            clear A520
            by_cases c53 : (!(t370 == t378) || ((!(t371 == t379) || (!(t372 == t380))) || (!(t373 == t381) || (!(t374 == t382) || (!(t375 == t383)))))) = true
            ·rw [if_pos c53] at H
             have c53b0 : (!(t370 == t378) || ((!(t371 == t379) || (!(t372 == t380))) || (!(t373 == t381) || (!(t374 == t382) || (!(t375 == t383)))))) = true := c53
             clear c53
             (first | rw [c53b0] | (simp only [i64_w, i32_w]; rw [c53b0]) | skip)
             have H' := Aside0.mk H
             clear H
             try go_wp2
             (repeat rw [zD])
             have n0_ : Aside0 (Kd.R k37 37 ((((((w45.setCell ⟨gb376, 0, none⟩ (.bool t370)).setCell ⟨gb376, 1, none⟩ (.int .i64 t371)).setCell ⟨gb376, 2, none⟩ (.int .i64 t372)).setCell ⟨gb376, 3, none⟩ (.int .i64 t373)).setCell ⟨gb376, 4, none⟩ (.int .i64 t374)).setCell ⟨gb376, 5, none⟩ (.int .i64 t375)) w.heap.size (fun _ => True) (.slice (some ad365) t347.length co29) t347) := ⟨by (with_reducible repeat (first | apply Kd.R_alloc | apply Kd.R_drewN | apply Kd.R_drew)); exact Kd.R_mono (Kd.R_far (p := ⟨gb376, 5, none⟩) (Kd.R_far (p := ⟨gb376, 4, none⟩) (Kd.R_far (p := ⟨gb376, 3, none⟩) (Kd.R_far (p := ⟨gb376, 2, none⟩) (Kd.R_far (p := ⟨gb376, 1, none⟩) (Kd.R_far (p := ⟨gb376, 0, none⟩) (Kd.R_types HO_6.out BK376.out (by decide)) (fun _ hk => hk.2) (.bool t370)) (fun _ hk => hk.2) (.int .i64 t371)) (fun _ hk => hk.2) (.int .i64 t372)) (fun _ hk => hk.2) (.int .i64 t373)) (fun _ hk => hk.2) (.int .i64 t374)) (fun _ hk => hk.2) (.int .i64 t375)) (fun _ hk => trivial)⟩
             have n1_ : Aside0 (((((((w45.setCell ⟨gb376, 0, none⟩ (.bool t370)).setCell ⟨gb376, 1, none⟩ (.int .i64 t371)).setCell ⟨gb376, 2, none⟩ (.int .i64 t372)).setCell ⟨gb376, 3, none⟩ (.int .i64 t373)).setCell ⟨gb376, 4, none⟩ (.int .i64 t374)).setCell ⟨gb376, 5, none⟩ (.int .i64 t375)).heap[gb356]? = some (.cells #[.int .i64 t342, .int .i64 t343, .int .i64 t344, .int .i64 t345, .int .i64 t346] 24 (0, 0))) := ⟨by (with_reducible repeat (first | refine blk_drewN ?_ _ | refine blk_drew ?_ | refine blk_alloc ?_ _)); refine blk_far ?_ NB356_376.out _; (with_reducible repeat (first | refine blk_drewN ?_ _ | refine blk_drew ?_ | refine blk_alloc ?_ _)); refine blk_far ?_ NB356_376.out _; (with_reducible repeat (first | refine blk_drewN ?_ _ | refine blk_drew ?_ | refine blk_alloc ?_ _)); refine blk_far ?_ NB356_376.out _; (with_reducible repeat (first | refine blk_drewN ?_ _ | refine blk_drew ?_ | refine blk_alloc ?_ _)); refine blk_far ?_ NB356_376.out _; (with_reducible repeat (first | refine blk_drewN ?_ _ | refine blk_drew ?_ | refine blk_alloc ?_ _)); refine blk_far ?_ NB356_376.out _; (with_reducible repeat (first | refine blk_drewN ?_ _ | refine blk_drew ?_ | refine blk_alloc ?_ _)); refine blk_far ?_ NB356_376.out _; (with_reducible repeat (first | refine blk_drewN ?_ _ | refine blk_drew ?_ | refine blk_alloc ?_ _)); exact BK356.out⟩
             have n2_ : Aside0 (((((((w45.setCell ⟨gb376, 0, none⟩ (.bool t370)).setCell ⟨gb376, 1, none⟩ (.int .i64 t371)).setCell ⟨gb376, 2, none⟩ (.int .i64 t372)).setCell ⟨gb376, 3, none⟩ (.int .i64 t373)).setCell ⟨gb376, 4, none⟩ (.int .i64 t374)).setCell ⟨gb376, 5, none⟩ (.int .i64 t375)).heap[gb357]? = some (.cells #[.bool t350, .int .i64 x358001_21, .int .i64 x358002_21, .int .i64 t353, .int .i64 t354, .int .i64 t355] 29 (0, 0))) := ⟨by (with_reducible repeat (first | refine blk_drewN ?_ _ | refine blk_drew ?_ | refine blk_alloc ?_ _)); refine blk_far ?_ NB357_376.out _; (with_reducible repeat (first | refine blk_drewN ?_ _ | refine blk_drew ?_ | refine blk_alloc ?_ _)); refine blk_far ?_ NB357_376.out _; (with_reducible repeat (first | refine blk_drewN ?_ _ | refine blk_drew ?_ | refine blk_alloc ?_ _)); refine blk_far ?_ NB357_376.out _; (with_reducible repeat (first | refine blk_drewN ?_ _ | refine blk_drew ?_ | refine blk_alloc ?_ _)); refine blk_far ?_ NB357_376.out _; (with_reducible repeat (first | refine blk_drewN ?_ _ | refine blk_drew ?_ | refine blk_alloc ?_ _)); refine blk_far ?_ NB357_376.out _; (with_reducible repeat (first | refine blk_drewN ?_ _ | refine blk_drew ?_ | refine blk_alloc ?_ _)); refine blk_far ?_ NB357_376.out _; (with_reducible repeat (first | refine blk_drewN ?_ _ | refine blk_drew ?_ | refine blk_alloc ?_ _)); exact BK357.out⟩
             have n3_ : Aside0 (((((((w45.setCell ⟨gb376, 0, none⟩ (.bool t370)).setCell ⟨gb376, 1, none⟩ (.int .i64 t371)).setCell ⟨gb376, 2, none⟩ (.int .i64 t372)).setCell ⟨gb376, 3, none⟩ (.int .i64 t373)).setCell ⟨gb376, 4, none⟩ (.int .i64 t374)).setCell ⟨gb376, 5, none⟩ (.int .i64 t375)).heap[gb376]? = some (.cells #[.bool t370, .int .i64 t371, .int .i64 t372, .int .i64 t373, .int .i64 t374, .int .i64 t375] 29 (0, 0))) := ⟨by (with_reducible repeat (first | refine blk_drewN ?_ _ | refine blk_drew ?_ | refine blk_alloc ?_ _)); refine blk_put (cs := #[.bool t370, .int .i64 t371, .int .i64 t372, .int .i64 t373, .int .i64 t374, .int .i64 0]) ?_ 5 _ rfl; (with_reducible repeat (first | refine blk_drewN ?_ _ | refine blk_drew ?_ | refine blk_alloc ?_ _)); refine blk_put (cs := #[.bool t370, .int .i64 t371, .int .i64 t372, .int .i64 t373, .int .i64 0, .int .i64 0]) ?_ 4 _ rfl; (with_reducible repeat (first | refine blk_drewN ?_ _ | refine blk_drew ?_ | refine blk_alloc ?_ _)); refine blk_put (cs := #[.bool t370, .int .i64 t371, .int .i64 t372, .int .i64 0, .int .i64 0, .int .i64 0]) ?_ 3 _ rfl; (with_reducible repeat (first | refine blk_drewN ?_ _ | refine blk_drew ?_ | refine blk_alloc ?_ _)); refine blk_put (cs := #[.bool t370, .int .i64 t371, .int .i64 0, .int .i64 0, .int .i64 0, .int .i64 0]) ?_ 2 _ rfl; (with_reducible repeat (first | refine blk_drewN ?_ _ | refine blk_drew ?_ | refine blk_alloc ?_ _)); refine blk_put (cs := #[.bool t370, .int .i64 0, .int .i64 0, .int .i64 0, .int .i64 0, .int .i64 0]) ?_ 1 _ rfl; (with_reducible repeat (first | refine blk_drewN ?_ _ | refine blk_drew ?_ | refine blk_alloc ?_ _)); refine blk_put (cs := #[.bool false, .int .i64 0, .int .i64 0, .int .i64 0, .int .i64 0, .int .i64 0]) ?_ 0 _ rfl; (with_reducible repeat (first | refine blk_drewN ?_ _ | refine blk_drew ?_ | refine blk_alloc ?_ _)); exact BK376.out⟩
             have n4_ : Aside0 (Below w.heap.size w ((((((w45.setCell ⟨gb376, 0, none⟩ (.bool t370)).setCell ⟨gb376, 1, none⟩ (.int .i64 t371)).setCell ⟨gb376, 2, none⟩ (.int .i64 t372)).setCell ⟨gb376, 3, none⟩ (.int .i64 t373)).setCell ⟨gb376, 4, none⟩ (.int .i64 t374)).setCell ⟨gb376, 5, none⟩ (.int .i64 t375))) := ⟨by repeat (first | (with_reducible first | exact HB.out | apply below_alloc | apply pw_below_drewN | apply below_drew1 | refine below_set ?_ GE356.out | refine below_set ?_ GE357.out | refine below_set ?_ GE376.out) | exact HB.out)⟩
             (try clear HO_6)
             (try clear BK356)
             (try clear BK357)
             (try clear BK376)
             (try clear HB)
             generalize ((((((w45.setCell ⟨gb376, 0, none⟩ (.bool t370)).setCell ⟨gb376, 1, none⟩ (.int .i64 t371)).setCell ⟨gb376, 2, none⟩ (.int .i64 t372)).setCell ⟨gb376, 3, none⟩ (.int .i64 t373)).setCell ⟨gb376, 4, none⟩ (.int .i64 t374)).setCell ⟨gb376, 5, none⟩ (.int .i64 t375)) = w54 at n0_ n1_ n2_ n3_ n4_ ⊢
             have HO_6 := n0_
             have BK356 := n1_
             have BK357 := n2_
             have BK376 := n3_
             have HB := n4_
             clear n0_ n1_ n2_ n3_ n4_
             have n0_ := Aside0.mk (Kd.R_drew HO_6.out)
             have n1_ := Aside0.mk (blk_drew BK356.out)
             have n2_ := Aside0.mk (blk_drew BK357.out)
             have n3_ := Aside0.mk (blk_drew BK376.out)
             have n4_ := Aside0.mk (below_drew1 HB.out)
             clear HO_6 BK356 BK357 BK376 HB
             have HO_6 := n0_
             have BK356 := n1_
             have BK357 := n2_
             have BK376 := n3_
             have HB := n4_
             clear n0_ n1_ n2_ n3_ n4_
             have p377 : 0 ≤ (ji18 : Int) := of_decide_eq_true (by first | (with_reducible assumption) | assumption)
             have q377 : ji18 < (t347.length : Int) := of_decide_eq_true (by first | (with_reducible assumption) | assumption)
             obtain ⟨ad377, e377, hx377_0, hx377_1⟩ := at_T37 (Kd.R_reads' HO_6.out).2.2 ji18 p377 q377
             obtain rfl : ad365 = ad377 := (by injection e377)
             replace p377 := eq_true p377
             replace q377 := eq_true q377
             refine start_ (n := 23) (S := fun w' => w'.cell? ⟨gb376, 0, none⟩ = some (.bool t370) ∧ w'.cell? ⟨gb376, 1, none⟩ = some (.int .i64 t371) ∧ w'.cell? ⟨gb376, 2, none⟩ = some (.int .i64 t372) ∧ w'.cell? ⟨gb376, 3, none⟩ = some (.int .i64 t373) ∧ w'.cell? ⟨gb376, 4, none⟩ = some (.int .i64 t374) ∧ w'.cell? ⟨gb376, 5, none⟩ = some (.int .i64 t375) ∧ w'.cell? ⟨gb356, 0, none⟩ = some (.int .i64 t342) ∧ w'.cell? ⟨gb356, 1, none⟩ = some (.int .i64 t343) ∧ w'.cell? ⟨gb356, 2, none⟩ = some (.int .i64 t344) ∧ w'.cell? ⟨gb356, 3, none⟩ = some (.int .i64 t345) ∧ w'.cell? ⟨gb356, 4, none⟩ = some (.int .i64 t346) ∧ w'.cell? ⟨gb357, 0, none⟩ = some (.bool t350) ∧ w'.cell? ⟨gb357, 1, none⟩ = some (.int .i64 x358001_21) ∧ w'.cell? ⟨gb357, 2, none⟩ = some (.int .i64 x358002_21) ∧ w'.cell? ⟨gb357, 3, none⟩ = some (.int .i64 t353) ∧ w'.cell? ⟨gb357, 4, none⟩ = some (.int .i64 t354) ∧ w'.cell? ⟨gb357, 5, none⟩ = some (.int .i64 t355) ∧ w'.cell? (ad365.add ((ji18).toNat * 2)) = some (.int .i64 ((rd_T37 t347 ji18).f0)) ∧ w'.cell? ⟨(ad365.add ((ji18).toNat * 2)).block, (ad365.add ((ji18).toNat * 2)).off + 1, none⟩ = some (.int .i64 ((rd_T37 t347 ji18).f1))) (ds := []) #[false, false, false, false, false, false, false, false, false, false, false, false, false, false, false, false, false, false, false, false, false, false, false] (by kernel_rfl) rfl rfl ⟨zc BK376 0, zc BK376 1, zc BK376 2, zc BK376 3, zc BK376 4, zc BK376 5, zc BK356 0, zc BK356 1, zc BK356 2, zc BK356 3, zc BK356 4, zc BK357 0, zc BK357 1, zc BK357 2, zc BK357 3, zc BK357 4, zc BK357 5, hx377_0, hx377_1⟩ (fun hHeld => ?_); refine with_tabW laws_FnRead.tab12 laws_FnRead.bits12 (fun HT_ HW_ => ?_)
             generalize w54.drew = w55 at HO_6 BK356 BK357 BK376 HB hx377_0 hx377_1 hHeld ⊢
             refine zp 2 79 (zm 23 4) HT_ ?_
             refine zp 4 81 (zm 23 20) HT_ ?_
             refine zp 5 82 (zm 23 52) HT_ ?_
             refine zp 6 83 (zm 23 116) HT_ ?_
             refine zp 7 84 (zm 23 244) HT_ ?_
             refine zt 0 77 (zm 23 245) HT_ HW_ hHeld ?_
             refine zt 1 78 (zm 23 247) HT_ HW_ hHeld ?_
             refine zt 3 80 (zm 23 255) HT_ HW_ hHeld ?_
             refine zt 8 85 (zm 23 511) HT_ HW_ hHeld ?_
             refine zp 9 86 (zm 23 1023) HT_ ?_
             refine zo 10 (some 87) (zm 23 2047) HT_ (fun K hK => ?_)
             refine goes_ Try.func17 (by kernel_rfl) rfl #[.agg #[.int .i64 t342, .int .i64 t343, .int .i64 t344, .int .i64 t345, .int .i64 t346], .slice (some ad365) t347.length co29, .agg #[.bool t350, .int .i64 x358001_21, .int .i64 x358002_21, .int .i64 t353, .int .i64 t354, .int .i64 t355], .agg #[.int .i64 2, .int .i64 ((rd_T37 t347 ji18).f0)]] (by rfl) rfl rfl (by (try simp only [List.map_toArray, List.map_cons, List.map_nil]); first | done | (simp only [hji18]; rfl) | rfl | (simp only [List.length_drop, List.length_take]; rfl)) ?_
             with_reducible refine (spec_Do.calls kj21 t342 t343 t344 t345 t346 _ _ t347 t350 x358001_21 x358002_21 t353 t354 t355 2 ((rd_T37 t347 ji18).f0) t378 t379 t380 t381 t382 t383 _ ?side1 ?side2 A52.out).mono ?_
             (case side1 => repeat (first | exact (Kd.R_reads' HO_6.out).2.2 | (with_reducible refine Kd.C_alloc ?_ _) | (with_reducible refine Kd.C_drewN ?_ _) | (with_reducible refine Kd.C_drew ?_)))
             (case side2 => exact (Kd.R_reads' HO_6.out).2.1)
             rintro e w56 ⟨rfl, hb⟩
             have HS17_ := (hb.cell (World.block_lt_of_cell? _ _ (hHeld.2.2.2.2.2.2.2.2.2.2.2.2.2.2.2.2.2.1))).trans (hHeld.2.2.2.2.2.2.2.2.2.2.2.2.2.2.2.2.2.1)
             have HS18_ := (hb.cell (World.block_lt_of_cell? _ _ (hHeld.2.2.2.2.2.2.2.2.2.2.2.2.2.2.2.2.2.2))).trans (hHeld.2.2.2.2.2.2.2.2.2.2.2.2.2.2.2.2.2.2)
             refine ⟨_, rfl, ?_⟩
             replace BK356 := zb BK356 hb
             replace BK357 := zb BK357 hb
             replace BK376 := zb BK376 hb
             replace HB := zB HB hb
             replace HO_6 := Aside0.mk (Kd.R_below (zr HO_6) hb)
             (try clear hb)
             refine hK.out _ _ ⟨zc BK376 0, zc BK376 1, zc BK376 2, zc BK376 3, zc BK376 4, zc BK376 5, zc BK356 0, zc BK356 1, zc BK356 2, zc BK356 3, zc BK356 4, zc BK357 0, zc BK357 1, zc BK357 2, zc BK357 3, zc BK357 4, zc BK357 5, HS17_, HS18_⟩ (fun hHeld => ?_)
             clear hK K
             refine zn 87 ?_
             refine zp 11 88 (zm 23 4095) HT_ ?_
             refine zp 12 89 (zm 23 8191) HT_ ?_
             refine zpu 13 90 (zm 23 16383) HT_ ?_
             refine zpu 14 91 (zm 23 32767) HT_ ?_
             refine zpu 15 92 (zm 23 65535) HT_ ?_
             refine zp 16 93 (zm 23 131071) HT_ ?_
             refine zp 17 94 (zm 23 262143) HT_ ?_
             refine zpu 18 95 (zm 23 524287) HT_ ?_
             refine zpu 19 96 (zm 23 1048575) HT_ ?_
             refine zpu 20 97 (zm 23 2097151) HT_ ?_
             refine zpu 21 98 (zm 23 4194303) HT_ ?_
             refine zp 22 99 (zm 23 8388607) HT_ ?_
             refine done_ (done_of HT_.out (by kernel_rfl)) ?_
             try go_wp2
             refine Met.intro ?_
             go_step
             refine meetU ?rel (by kernel_rfl) (by kernel_rfl)
             case rel => exact ⟨_, (true), ze, H', ⟨by have := HJ2.out; have := HJ21.out; first | omega | exact Nat.le_refl _⟩, ⟨zy BK356⟩, ⟨zy BK357⟩, ⟨zy BK376⟩, ⟨by repeat (first | (with_reducible first | exact HB.out | apply below_alloc | apply pw_below_drewN | apply below_drew1 | refine below_set ?_ GE356.out | refine below_set ?_ GE357.out | refine below_set ?_ GE376.out) | exact HB.out)⟩⟩
            ·rw [if_neg c53] at H
             have c53b0 : (!(t370 == t378) || ((!(t371 == t379) || (!(t372 == t380))) || (!(t373 == t381) || (!(t374 == t382) || (!(t375 == t383)))))) = false := by simpa using c53
             clear c53
             (first | rw [c53b0] | (simp only [i64_w, i32_w]; rw [c53b0]) | skip)
             by_cases c57 : t373 = 0
             ·rw [if_pos c57] at H
              have c57b0 : (t373 == 0) = true := beq_iff_eq.mpr c57
              have c57b1 : (t373 != 0) = false := bne_eq_false_iff_eq.mpr c57
              clear c57
              have H' := Aside0.mk H
              clear H
              try go_wp2
              (repeat rw [zD])
              have n0_ : Aside0 (Kd.R k37 37 ((((((w45.setCell ⟨gb376, 0, none⟩ (.bool t370)).setCell ⟨gb376, 1, none⟩ (.int .i64 t371)).setCell ⟨gb376, 2, none⟩ (.int .i64 t372)).setCell ⟨gb376, 3, none⟩ (.int .i64 t373)).setCell ⟨gb376, 4, none⟩ (.int .i64 t374)).setCell ⟨gb376, 5, none⟩ (.int .i64 t375)) w.heap.size (fun _ => True) (.slice (some ad365) t347.length co29) t347) := ⟨by (with_reducible repeat (first | apply Kd.R_alloc | apply Kd.R_drewN | apply Kd.R_drew)); exact Kd.R_mono (Kd.R_far (p := ⟨gb376, 5, none⟩) (Kd.R_far (p := ⟨gb376, 4, none⟩) (Kd.R_far (p := ⟨gb376, 3, none⟩) (Kd.R_far (p := ⟨gb376, 2, none⟩) (Kd.R_far (p := ⟨gb376, 1, none⟩) (Kd.R_far (p := ⟨gb376, 0, none⟩) (Kd.R_types HO_6.out BK376.out (by decide)) (fun _ hk => hk.2) (.bool t370)) (fun _ hk => hk.2) (.int .i64 t371)) (fun _ hk => hk.2) (.int .i64 t372)) (fun _ hk => hk.2) (.int .i64 t373)) (fun _ hk => hk.2) (.int .i64 t374)) (fun _ hk => hk.2) (.int .i64 t375)) (fun _ hk => trivial)⟩
              have n1_ : Aside0 (((((((w45.setCell ⟨gb376, 0, none⟩ (.bool t370)).setCell ⟨gb376, 1, none⟩ (.int .i64 t371)).setCell ⟨gb376, 2, none⟩ (.int .i64 t372)).setCell ⟨gb376, 3, none⟩ (.int .i64 t373)).setCell ⟨gb376, 4, none⟩ (.int .i64 t374)).setCell ⟨gb376, 5, none⟩ (.int .i64 t375)).heap[gb356]? = some (.cells #[.int .i64 t342, .int .i64 t343, .int .i64 t344, .int .i64 t345, .int .i64 t346] 24 (0, 0))) := ⟨by (with_reducible repeat (first | refine blk_drewN ?_ _ | refine blk_drew ?_ | refine blk_alloc ?_ _)); refine blk_far ?_ NB356_376.out _; (with_reducible repeat (first | refine blk_drewN ?_ _ | refine blk_drew ?_ | refine blk_alloc ?_ _)); refine blk_far ?_ NB356_376.out _; (with_reducible repeat (first | refine blk_drewN ?_ _ | refine blk_drew ?_ | refine blk_alloc ?_ _)); refine blk_far ?_ NB356_376.out _; (with_reducible repeat (first | refine blk_drewN ?_ _ | refine blk_drew ?_ | refine blk_alloc ?_ _)); refine blk_far ?_ NB356_376.out _; (with_reducible repeat (first | refine blk_drewN ?_ _ | refine blk_drew ?_ | refine blk_alloc ?_ _)); refine blk_far ?_ NB356_376.out _; (with_reducible repeat (first | refine blk_drewN ?_ _ | refine blk_drew ?_ | refine blk_alloc ?_ _)); refine blk_far ?_ NB356_376.out _; (with_reducible repeat (first | refine blk_drewN ?_ _ | refine blk_drew ?_ | refine blk_alloc ?_ _)); exact BK356.out⟩
              have n2_ : Aside0 (((((((w45.setCell ⟨gb376, 0, none⟩ (.bool t370)).setCell ⟨gb376, 1, none⟩ (.int .i64 t371)).setCell ⟨gb376, 2, none⟩ (.int .i64 t372)).setCell ⟨gb376, 3, none⟩ (.int .i64 t373)).setCell ⟨gb376, 4, none⟩ (.int .i64 t374)).setCell ⟨gb376, 5, none⟩ (.int .i64 t375)).heap[gb357]? = some (.cells #[.bool t350, .int .i64 x358001_21, .int .i64 x358002_21, .int .i64 t353, .int .i64 t354, .int .i64 t355] 29 (0, 0))) := ⟨by (with_reducible repeat (first | refine blk_drewN ?_ _ | refine blk_drew ?_ | refine blk_alloc ?_ _)); refine blk_far ?_ NB357_376.out _; (with_reducible repeat (first | refine blk_drewN ?_ _ | refine blk_drew ?_ | refine blk_alloc ?_ _)); refine blk_far ?_ NB357_376.out _; (with_reducible repeat (first | refine blk_drewN ?_ _ | refine blk_drew ?_ | refine blk_alloc ?_ _)); refine blk_far ?_ NB357_376.out _; (with_reducible repeat (first | refine blk_drewN ?_ _ | refine blk_drew ?_ | refine blk_alloc ?_ _)); refine blk_far ?_ NB357_376.out _; (with_reducible repeat (first | refine blk_drewN ?_ _ | refine blk_drew ?_ | refine blk_alloc ?_ _)); refine blk_far ?_ NB357_376.out _; (with_reducible repeat (first | refine blk_drewN ?_ _ | refine blk_drew ?_ | refine blk_alloc ?_ _)); refine blk_far ?_ NB357_376.out _; (with_reducible repeat (first | refine blk_drewN ?_ _ | refine blk_drew ?_ | refine blk_alloc ?_ _)); exact BK357.out⟩
              have n3_ : Aside0 (((((((w45.setCell ⟨gb376, 0, none⟩ (.bool t370)).setCell ⟨gb376, 1, none⟩ (.int .i64 t371)).setCell ⟨gb376, 2, none⟩ (.int .i64 t372)).setCell ⟨gb376, 3, none⟩ (.int .i64 t373)).setCell ⟨gb376, 4, none⟩ (.int .i64 t374)).setCell ⟨gb376, 5, none⟩ (.int .i64 t375)).heap[gb376]? = some (.cells #[.bool t370, .int .i64 t371, .int .i64 t372, .int .i64 t373, .int .i64 t374, .int .i64 t375] 29 (0, 0))) := ⟨by (with_reducible repeat (first | refine blk_drewN ?_ _ | refine blk_drew ?_ | refine blk_alloc ?_ _)); refine blk_put (cs := #[.bool t370, .int .i64 t371, .int .i64 t372, .int .i64 t373, .int .i64 t374, .int .i64 0]) ?_ 5 _ rfl; (with_reducible repeat (first | refine blk_drewN ?_ _ | refine blk_drew ?_ | refine blk_alloc ?_ _)); refine blk_put (cs := #[.bool t370, .int .i64 t371, .int .i64 t372, .int .i64 t373, .int .i64 0, .int .i64 0]) ?_ 4 _ rfl; (with_reducible repeat (first | refine blk_drewN ?_ _ | refine blk_drew ?_ | refine blk_alloc ?_ _)); refine blk_put (cs := #[.bool t370, .int .i64 t371, .int .i64 t372, .int .i64 0, .int .i64 0, .int .i64 0]) ?_ 3 _ rfl; (with_reducible repeat (first | refine blk_drewN ?_ _ | refine blk_drew ?_ | refine blk_alloc ?_ _)); refine blk_put (cs := #[.bool t370, .int .i64 t371, .int .i64 0, .int .i64 0, .int .i64 0, .int .i64 0]) ?_ 2 _ rfl; (with_reducible repeat (first | refine blk_drewN ?_ _ | refine blk_drew ?_ | refine blk_alloc ?_ _)); refine blk_put (cs := #[.bool t370, .int .i64 0, .int .i64 0, .int .i64 0, .int .i64 0, .int .i64 0]) ?_ 1 _ rfl; (with_reducible repeat (first | refine blk_drewN ?_ _ | refine blk_drew ?_ | refine blk_alloc ?_ _)); refine blk_put (cs := #[.bool false, .int .i64 0, .int .i64 0, .int .i64 0, .int .i64 0, .int .i64 0]) ?_ 0 _ rfl; (with_reducible repeat (first | refine blk_drewN ?_ _ | refine blk_drew ?_ | refine blk_alloc ?_ _)); exact BK376.out⟩
              have n4_ : Aside0 (Below w.heap.size w ((((((w45.setCell ⟨gb376, 0, none⟩ (.bool t370)).setCell ⟨gb376, 1, none⟩ (.int .i64 t371)).setCell ⟨gb376, 2, none⟩ (.int .i64 t372)).setCell ⟨gb376, 3, none⟩ (.int .i64 t373)).setCell ⟨gb376, 4, none⟩ (.int .i64 t374)).setCell ⟨gb376, 5, none⟩ (.int .i64 t375))) := ⟨by repeat (first | (with_reducible first | exact HB.out | apply below_alloc | apply pw_below_drewN | apply below_drew1 | refine below_set ?_ GE356.out | refine below_set ?_ GE357.out | refine below_set ?_ GE376.out) | exact HB.out)⟩
              (try clear HO_6)
              (try clear BK356)
              (try clear BK357)
              (try clear BK376)
              (try clear HB)
              generalize ((((((w45.setCell ⟨gb376, 0, none⟩ (.bool t370)).setCell ⟨gb376, 1, none⟩ (.int .i64 t371)).setCell ⟨gb376, 2, none⟩ (.int .i64 t372)).setCell ⟨gb376, 3, none⟩ (.int .i64 t373)).setCell ⟨gb376, 4, none⟩ (.int .i64 t374)).setCell ⟨gb376, 5, none⟩ (.int .i64 t375)) = w58 at n0_ n1_ n2_ n3_ n4_ ⊢
              have HO_6 := n0_
              have BK356 := n1_
              have BK357 := n2_
              have BK376 := n3_
              have HB := n4_
              clear n0_ n1_ n2_ n3_ n4_
              have n0_ := Aside0.mk (Kd.R_drew HO_6.out)
              have n1_ := Aside0.mk (blk_drew BK356.out)
              have n2_ := Aside0.mk (blk_drew BK357.out)
              have n3_ := Aside0.mk (blk_drew BK376.out)
              have n4_ := Aside0.mk (below_drew1 HB.out)
              clear HO_6 BK356 BK357 BK376 HB
              have HO_6 := n0_
              have BK356 := n1_
              have BK357 := n2_
              have BK376 := n3_
              have HB := n4_
              clear n0_ n1_ n2_ n3_ n4_
              have p377 : 0 ≤ (ji18 : Int) := of_decide_eq_true (by first | (with_reducible assumption) | assumption)
              have q377 : ji18 < (t347.length : Int) := of_decide_eq_true (by first | (with_reducible assumption) | assumption)
              obtain ⟨ad377, e377, hx377_0, hx377_1⟩ := at_T37 (Kd.R_reads' HO_6.out).2.2 ji18 p377 q377
              obtain rfl : ad365 = ad377 := (by injection e377)
              replace p377 := eq_true p377
              replace q377 := eq_true q377
              refine start_ (n := 23) (S := fun w' => w'.cell? ⟨gb376, 0, none⟩ = some (.bool t370) ∧ w'.cell? ⟨gb376, 1, none⟩ = some (.int .i64 t371) ∧ w'.cell? ⟨gb376, 2, none⟩ = some (.int .i64 t372) ∧ w'.cell? ⟨gb376, 3, none⟩ = some (.int .i64 t373) ∧ w'.cell? ⟨gb376, 4, none⟩ = some (.int .i64 t374) ∧ w'.cell? ⟨gb376, 5, none⟩ = some (.int .i64 t375) ∧ w'.cell? ⟨gb356, 0, none⟩ = some (.int .i64 t342) ∧ w'.cell? ⟨gb356, 1, none⟩ = some (.int .i64 t343) ∧ w'.cell? ⟨gb356, 2, none⟩ = some (.int .i64 t344) ∧ w'.cell? ⟨gb356, 3, none⟩ = some (.int .i64 t345) ∧ w'.cell? ⟨gb356, 4, none⟩ = some (.int .i64 t346) ∧ w'.cell? ⟨gb357, 0, none⟩ = some (.bool t350) ∧ w'.cell? ⟨gb357, 1, none⟩ = some (.int .i64 x358001_21) ∧ w'.cell? ⟨gb357, 2, none⟩ = some (.int .i64 x358002_21) ∧ w'.cell? ⟨gb357, 3, none⟩ = some (.int .i64 t353) ∧ w'.cell? ⟨gb357, 4, none⟩ = some (.int .i64 t354) ∧ w'.cell? ⟨gb357, 5, none⟩ = some (.int .i64 t355) ∧ w'.cell? (ad365.add ((ji18).toNat * 2)) = some (.int .i64 ((rd_T37 t347 ji18).f0)) ∧ w'.cell? ⟨(ad365.add ((ji18).toNat * 2)).block, (ad365.add ((ji18).toNat * 2)).off + 1, none⟩ = some (.int .i64 ((rd_T37 t347 ji18).f1))) (ds := []) #[false, false, false, false, false, false, false, false, false, false, false, false, false, false, false, false, false, false, false, false, false, false, false] (by kernel_rfl) rfl rfl ⟨zc BK376 0, zc BK376 1, zc BK376 2, zc BK376 3, zc BK376 4, zc BK376 5, zc BK356 0, zc BK356 1, zc BK356 2, zc BK356 3, zc BK356 4, zc BK357 0, zc BK357 1, zc BK357 2, zc BK357 3, zc BK357 4, zc BK357 5, hx377_0, hx377_1⟩ (fun hHeld => ?_); refine with_tabW laws_FnRead.tab12 laws_FnRead.bits12 (fun HT_ HW_ => ?_)
              generalize w58.drew = w59 at HO_6 BK356 BK357 BK376 HB hx377_0 hx377_1 hHeld ⊢
              refine zp 2 79 (zm 23 4) HT_ ?_
              refine zp 4 81 (zm 23 20) HT_ ?_
              refine zp 5 82 (zm 23 52) HT_ ?_
              refine zp 6 83 (zm 23 116) HT_ ?_
              refine zp 7 84 (zm 23 244) HT_ ?_
              refine zt 0 77 (zm 23 245) HT_ HW_ hHeld ?_
              refine zt 1 78 (zm 23 247) HT_ HW_ hHeld ?_
              refine zt 3 80 (zm 23 255) HT_ HW_ hHeld ?_
              refine zt 8 85 (zm 23 511) HT_ HW_ hHeld ?_
              refine zp 9 86 (zm 23 1023) HT_ ?_
              refine zo 10 (some 87) (zm 23 2047) HT_ (fun K hK => ?_)
              refine goes_ Try.func17 (by kernel_rfl) rfl #[.agg #[.int .i64 t342, .int .i64 t343, .int .i64 t344, .int .i64 t345, .int .i64 t346], .slice (some ad365) t347.length co29, .agg #[.bool t350, .int .i64 x358001_21, .int .i64 x358002_21, .int .i64 t353, .int .i64 t354, .int .i64 t355], .agg #[.int .i64 2, .int .i64 ((rd_T37 t347 ji18).f0)]] (by rfl) rfl rfl (by (try simp only [List.map_toArray, List.map_cons, List.map_nil]); first | done | (simp only [hji18]; rfl) | rfl | (simp only [List.length_drop, List.length_take]; rfl)) ?_
              with_reducible refine (spec_Do.calls kj21 t342 t343 t344 t345 t346 _ _ t347 t350 x358001_21 x358002_21 t353 t354 t355 2 ((rd_T37 t347 ji18).f0) t378 t379 t380 t381 t382 t383 _ ?side1 ?side2 A52.out).mono ?_
              (case side1 => repeat (first | exact (Kd.R_reads' HO_6.out).2.2 | (with_reducible refine Kd.C_alloc ?_ _) | (with_reducible refine Kd.C_drewN ?_ _) | (with_reducible refine Kd.C_drew ?_)))
              (case side2 => exact (Kd.R_reads' HO_6.out).2.1)
              rintro e w60 ⟨rfl, hb⟩
              have HS17_ := (hb.cell (World.block_lt_of_cell? _ _ (hHeld.2.2.2.2.2.2.2.2.2.2.2.2.2.2.2.2.2.1))).trans (hHeld.2.2.2.2.2.2.2.2.2.2.2.2.2.2.2.2.2.1)
              have HS18_ := (hb.cell (World.block_lt_of_cell? _ _ (hHeld.2.2.2.2.2.2.2.2.2.2.2.2.2.2.2.2.2.2))).trans (hHeld.2.2.2.2.2.2.2.2.2.2.2.2.2.2.2.2.2.2)
              refine ⟨_, rfl, ?_⟩
              replace BK356 := zb BK356 hb
              replace BK357 := zb BK357 hb
              replace BK376 := zb BK376 hb
              replace HB := zB HB hb
              replace HO_6 := Aside0.mk (Kd.R_below (zr HO_6) hb)
              (try clear hb)
              refine hK.out _ _ ⟨zc BK376 0, zc BK376 1, zc BK376 2, zc BK376 3, zc BK376 4, zc BK376 5, zc BK356 0, zc BK356 1, zc BK356 2, zc BK356 3, zc BK356 4, zc BK357 0, zc BK357 1, zc BK357 2, zc BK357 3, zc BK357 4, zc BK357 5, HS17_, HS18_⟩ (fun hHeld => ?_)
              clear hK K
              refine zn 87 ?_
              refine zp 11 88 (zm 23 4095) HT_ ?_
              refine zp 12 89 (zm 23 8191) HT_ ?_
              refine zp 13 90 (zm 23 16383) HT_ ?_
              refine zt 14 91 (zm 23 32767) HT_ HW_ hHeld ?_
              refine zp 15 92 (zm 23 65535) HT_ ?_
              refine zp 16 93 (zm 23 131071) HT_ ?_
              refine zp 17 94 (zm 23 262143) HT_ ?_
              refine zp 18 95 (zm 23 524287) HT_ ?_
              refine zp 20 97 (zm 23 1572863) HT_ ?_
              refine zt 19 96 (zm 23 2097151) HT_ HW_ hHeld ?_
              refine zp 21 98 (zm 23 4194303) HT_ ?_
              refine zp 22 99 (zm 23 8388607) HT_ ?_
              refine done_ (done_of HT_.out (by kernel_rfl)) ?_
              try go_wp2
              refine Met.intro ?_
              go_step
              refine meetU ?rel (by kernel_rfl) (by kernel_rfl)
              case rel => exact ⟨_, ((t374 != ji18)), (by first | rfl | (simp; done) | (simp only [← hji18] <;> (first | rfl | simp)) | (simp [*]; done)), H', ⟨by have := HJ2.out; have := HJ21.out; first | omega | exact Nat.le_refl _⟩, ⟨zy BK356⟩, ⟨zy BK357⟩, ⟨zy BK376⟩, ⟨by repeat (first | (with_reducible first | exact HB.out | apply below_alloc | apply pw_below_drewN | apply below_drew1 | refine below_set ?_ GE356.out | refine below_set ?_ GE357.out | refine below_set ?_ GE376.out) | exact HB.out)⟩⟩
             ·rw [if_neg c57] at H
              have c57b0 : (t373 == 0) = false := beq_eq_false_iff_ne.mpr c57
              have c57b1 : (t373 != 0) = true := bne_iff_ne.mpr c57
              have H' := Aside0.mk H
              clear H
              try go_wp2
              (repeat rw [zD])
              have n0_ : Aside0 (Kd.R k37 37 ((((((w45.setCell ⟨gb376, 0, none⟩ (.bool t370)).setCell ⟨gb376, 1, none⟩ (.int .i64 t371)).setCell ⟨gb376, 2, none⟩ (.int .i64 t372)).setCell ⟨gb376, 3, none⟩ (.int .i64 t373)).setCell ⟨gb376, 4, none⟩ (.int .i64 t374)).setCell ⟨gb376, 5, none⟩ (.int .i64 t375)) w.heap.size (fun _ => True) (.slice (some ad365) t347.length co29) t347) := ⟨by (with_reducible repeat (first | apply Kd.R_alloc | apply Kd.R_drewN | apply Kd.R_drew)); exact Kd.R_mono (Kd.R_far (p := ⟨gb376, 5, none⟩) (Kd.R_far (p := ⟨gb376, 4, none⟩) (Kd.R_far (p := ⟨gb376, 3, none⟩) (Kd.R_far (p := ⟨gb376, 2, none⟩) (Kd.R_far (p := ⟨gb376, 1, none⟩) (Kd.R_far (p := ⟨gb376, 0, none⟩) (Kd.R_types HO_6.out BK376.out (by decide)) (fun _ hk => hk.2) (.bool t370)) (fun _ hk => hk.2) (.int .i64 t371)) (fun _ hk => hk.2) (.int .i64 t372)) (fun _ hk => hk.2) (.int .i64 t373)) (fun _ hk => hk.2) (.int .i64 t374)) (fun _ hk => hk.2) (.int .i64 t375)) (fun _ hk => trivial)⟩
              have n1_ : Aside0 (((((((w45.setCell ⟨gb376, 0, none⟩ (.bool t370)).setCell ⟨gb376, 1, none⟩ (.int .i64 t371)).setCell ⟨gb376, 2, none⟩ (.int .i64 t372)).setCell ⟨gb376, 3, none⟩ (.int .i64 t373)).setCell ⟨gb376, 4, none⟩ (.int .i64 t374)).setCell ⟨gb376, 5, none⟩ (.int .i64 t375)).heap[gb356]? = some (.cells #[.int .i64 t342, .int .i64 t343, .int .i64 t344, .int .i64 t345, .int .i64 t346] 24 (0, 0))) := ⟨by (with_reducible repeat (first | refine blk_drewN ?_ _ | refine blk_drew ?_ | refine blk_alloc ?_ _)); refine blk_far ?_ NB356_376.out _; (with_reducible repeat (first | refine blk_drewN ?_ _ | refine blk_drew ?_ | refine blk_alloc ?_ _)); refine blk_far ?_ NB356_376.out _; (with_reducible repeat (first | refine blk_drewN ?_ _ | refine blk_drew ?_ | refine blk_alloc ?_ _)); refine blk_far ?_ NB356_376.out _; (with_reducible repeat (first | refine blk_drewN ?_ _ | refine blk_drew ?_ | refine blk_alloc ?_ _)); refine blk_far ?_ NB356_376.out _; (with_reducible repeat (first | refine blk_drewN ?_ _ | refine blk_drew ?_ | refine blk_alloc ?_ _)); refine blk_far ?_ NB356_376.out _; (with_reducible repeat (first | refine blk_drewN ?_ _ | refine blk_drew ?_ | refine blk_alloc ?_ _)); refine blk_far ?_ NB356_376.out _; (with_reducible repeat (first | refine blk_drewN ?_ _ | refine blk_drew ?_ | refine blk_alloc ?_ _)); exact BK356.out⟩
              have n2_ : Aside0 (((((((w45.setCell ⟨gb376, 0, none⟩ (.bool t370)).setCell ⟨gb376, 1, none⟩ (.int .i64 t371)).setCell ⟨gb376, 2, none⟩ (.int .i64 t372)).setCell ⟨gb376, 3, none⟩ (.int .i64 t373)).setCell ⟨gb376, 4, none⟩ (.int .i64 t374)).setCell ⟨gb376, 5, none⟩ (.int .i64 t375)).heap[gb357]? = some (.cells #[.bool t350, .int .i64 x358001_21, .int .i64 x358002_21, .int .i64 t353, .int .i64 t354, .int .i64 t355] 29 (0, 0))) := ⟨by (with_reducible repeat (first | refine blk_drewN ?_ _ | refine blk_drew ?_ | refine blk_alloc ?_ _)); refine blk_far ?_ NB357_376.out _; (with_reducible repeat (first | refine blk_drewN ?_ _ | refine blk_drew ?_ | refine blk_alloc ?_ _)); refine blk_far ?_ NB357_376.out _; (with_reducible repeat (first | refine blk_drewN ?_ _ | refine blk_drew ?_ | refine blk_alloc ?_ _)); refine blk_far ?_ NB357_376.out _; (with_reducible repeat (first | refine blk_drewN ?_ _ | refine blk_drew ?_ | refine blk_alloc ?_ _)); refine blk_far ?_ NB357_376.out _; (with_reducible repeat (first | refine blk_drewN ?_ _ | refine blk_drew ?_ | refine blk_alloc ?_ _)); refine blk_far ?_ NB357_376.out _; (with_reducible repeat (first | refine blk_drewN ?_ _ | refine blk_drew ?_ | refine blk_alloc ?_ _)); refine blk_far ?_ NB357_376.out _; (with_reducible repeat (first | refine blk_drewN ?_ _ | refine blk_drew ?_ | refine blk_alloc ?_ _)); exact BK357.out⟩
              have n3_ : Aside0 (((((((w45.setCell ⟨gb376, 0, none⟩ (.bool t370)).setCell ⟨gb376, 1, none⟩ (.int .i64 t371)).setCell ⟨gb376, 2, none⟩ (.int .i64 t372)).setCell ⟨gb376, 3, none⟩ (.int .i64 t373)).setCell ⟨gb376, 4, none⟩ (.int .i64 t374)).setCell ⟨gb376, 5, none⟩ (.int .i64 t375)).heap[gb376]? = some (.cells #[.bool t370, .int .i64 t371, .int .i64 t372, .int .i64 t373, .int .i64 t374, .int .i64 t375] 29 (0, 0))) := ⟨by (with_reducible repeat (first | refine blk_drewN ?_ _ | refine blk_drew ?_ | refine blk_alloc ?_ _)); refine blk_put (cs := #[.bool t370, .int .i64 t371, .int .i64 t372, .int .i64 t373, .int .i64 t374, .int .i64 0]) ?_ 5 _ rfl; (with_reducible repeat (first | refine blk_drewN ?_ _ | refine blk_drew ?_ | refine blk_alloc ?_ _)); refine blk_put (cs := #[.bool t370, .int .i64 t371, .int .i64 t372, .int .i64 t373, .int .i64 0, .int .i64 0]) ?_ 4 _ rfl; (with_reducible repeat (first | refine blk_drewN ?_ _ | refine blk_drew ?_ | refine blk_alloc ?_ _)); refine blk_put (cs := #[.bool t370, .int .i64 t371, .int .i64 t372, .int .i64 0, .int .i64 0, .int .i64 0]) ?_ 3 _ rfl; (with_reducible repeat (first | refine blk_drewN ?_ _ | refine blk_drew ?_ | refine blk_alloc ?_ _)); refine blk_put (cs := #[.bool t370, .int .i64 t371, .int .i64 0, .int .i64 0, .int .i64 0, .int .i64 0]) ?_ 2 _ rfl; (with_reducible repeat (first | refine blk_drewN ?_ _ | refine blk_drew ?_ | refine blk_alloc ?_ _)); refine blk_put (cs := #[.bool t370, .int .i64 0, .int .i64 0, .int .i64 0, .int .i64 0, .int .i64 0]) ?_ 1 _ rfl; (with_reducible repeat (first | refine blk_drewN ?_ _ | refine blk_drew ?_ | refine blk_alloc ?_ _)); refine blk_put (cs := #[.bool false, .int .i64 0, .int .i64 0, .int .i64 0, .int .i64 0, .int .i64 0]) ?_ 0 _ rfl; (with_reducible repeat (first | refine blk_drewN ?_ _ | refine blk_drew ?_ | refine blk_alloc ?_ _)); exact BK376.out⟩
              have n4_ : Aside0 (Below w.heap.size w ((((((w45.setCell ⟨gb376, 0, none⟩ (.bool t370)).setCell ⟨gb376, 1, none⟩ (.int .i64 t371)).setCell ⟨gb376, 2, none⟩ (.int .i64 t372)).setCell ⟨gb376, 3, none⟩ (.int .i64 t373)).setCell ⟨gb376, 4, none⟩ (.int .i64 t374)).setCell ⟨gb376, 5, none⟩ (.int .i64 t375))) := ⟨by repeat (first | (with_reducible first | exact HB.out | apply below_alloc | apply pw_below_drewN | apply below_drew1 | refine below_set ?_ GE356.out | refine below_set ?_ GE357.out | refine below_set ?_ GE376.out) | exact HB.out)⟩
              (try clear HO_6)
              (try clear BK356)
              (try clear BK357)
              (try clear BK376)
              (try clear HB)
              generalize ((((((w45.setCell ⟨gb376, 0, none⟩ (.bool t370)).setCell ⟨gb376, 1, none⟩ (.int .i64 t371)).setCell ⟨gb376, 2, none⟩ (.int .i64 t372)).setCell ⟨gb376, 3, none⟩ (.int .i64 t373)).setCell ⟨gb376, 4, none⟩ (.int .i64 t374)).setCell ⟨gb376, 5, none⟩ (.int .i64 t375)) = w61 at n0_ n1_ n2_ n3_ n4_ ⊢
              have HO_6 := n0_
              have BK356 := n1_
              have BK357 := n2_
              have BK376 := n3_
              have HB := n4_
              clear n0_ n1_ n2_ n3_ n4_
              have n0_ := Aside0.mk (Kd.R_drew HO_6.out)
              have n1_ := Aside0.mk (blk_drew BK356.out)
              have n2_ := Aside0.mk (blk_drew BK357.out)
              have n3_ := Aside0.mk (blk_drew BK376.out)
              have n4_ := Aside0.mk (below_drew1 HB.out)
              clear HO_6 BK356 BK357 BK376 HB
              have HO_6 := n0_
              have BK356 := n1_
              have BK357 := n2_
              have BK376 := n3_
              have HB := n4_
              clear n0_ n1_ n2_ n3_ n4_
              have p377 : 0 ≤ (ji18 : Int) := of_decide_eq_true (by first | (with_reducible assumption) | assumption)
              have q377 : ji18 < (t347.length : Int) := of_decide_eq_true (by first | (with_reducible assumption) | assumption)
              obtain ⟨ad377, e377, hx377_0, hx377_1⟩ := at_T37 (Kd.R_reads' HO_6.out).2.2 ji18 p377 q377
              obtain rfl : ad365 = ad377 := (by injection e377)
              replace p377 := eq_true p377
              replace q377 := eq_true q377
              refine start_ (n := 23) (S := fun w' => w'.cell? ⟨gb376, 0, none⟩ = some (.bool t370) ∧ w'.cell? ⟨gb376, 1, none⟩ = some (.int .i64 t371) ∧ w'.cell? ⟨gb376, 2, none⟩ = some (.int .i64 t372) ∧ w'.cell? ⟨gb376, 3, none⟩ = some (.int .i64 t373) ∧ w'.cell? ⟨gb376, 4, none⟩ = some (.int .i64 t374) ∧ w'.cell? ⟨gb376, 5, none⟩ = some (.int .i64 t375) ∧ w'.cell? ⟨gb356, 0, none⟩ = some (.int .i64 t342) ∧ w'.cell? ⟨gb356, 1, none⟩ = some (.int .i64 t343) ∧ w'.cell? ⟨gb356, 2, none⟩ = some (.int .i64 t344) ∧ w'.cell? ⟨gb356, 3, none⟩ = some (.int .i64 t345) ∧ w'.cell? ⟨gb356, 4, none⟩ = some (.int .i64 t346) ∧ w'.cell? ⟨gb357, 0, none⟩ = some (.bool t350) ∧ w'.cell? ⟨gb357, 1, none⟩ = some (.int .i64 x358001_21) ∧ w'.cell? ⟨gb357, 2, none⟩ = some (.int .i64 x358002_21) ∧ w'.cell? ⟨gb357, 3, none⟩ = some (.int .i64 t353) ∧ w'.cell? ⟨gb357, 4, none⟩ = some (.int .i64 t354) ∧ w'.cell? ⟨gb357, 5, none⟩ = some (.int .i64 t355) ∧ w'.cell? (ad365.add ((ji18).toNat * 2)) = some (.int .i64 ((rd_T37 t347 ji18).f0)) ∧ w'.cell? ⟨(ad365.add ((ji18).toNat * 2)).block, (ad365.add ((ji18).toNat * 2)).off + 1, none⟩ = some (.int .i64 ((rd_T37 t347 ji18).f1))) (ds := []) #[false, false, false, false, false, false, false, false, false, false, false, false, false, false, false, false, false, false, false, false, false, false, false] (by kernel_rfl) rfl rfl ⟨zc BK376 0, zc BK376 1, zc BK376 2, zc BK376 3, zc BK376 4, zc BK376 5, zc BK356 0, zc BK356 1, zc BK356 2, zc BK356 3, zc BK356 4, zc BK357 0, zc BK357 1, zc BK357 2, zc BK357 3, zc BK357 4, zc BK357 5, hx377_0, hx377_1⟩ (fun hHeld => ?_); refine with_tabW laws_FnRead.tab12 laws_FnRead.bits12 (fun HT_ HW_ => ?_)
              generalize w61.drew = w62 at HO_6 BK356 BK357 BK376 HB hx377_0 hx377_1 hHeld ⊢
              refine zp 2 79 (zm 23 4) HT_ ?_
              refine zp 4 81 (zm 23 20) HT_ ?_
              refine zp 5 82 (zm 23 52) HT_ ?_
              refine zp 6 83 (zm 23 116) HT_ ?_
              refine zp 7 84 (zm 23 244) HT_ ?_
              refine zt 0 77 (zm 23 245) HT_ HW_ hHeld ?_
              refine zt 1 78 (zm 23 247) HT_ HW_ hHeld ?_
              refine zt 3 80 (zm 23 255) HT_ HW_ hHeld ?_
              refine zt 8 85 (zm 23 511) HT_ HW_ hHeld ?_
              refine zp 9 86 (zm 23 1023) HT_ ?_
              refine zo 10 (some 87) (zm 23 2047) HT_ (fun K hK => ?_)
              refine goes_ Try.func17 (by kernel_rfl) rfl #[.agg #[.int .i64 t342, .int .i64 t343, .int .i64 t344, .int .i64 t345, .int .i64 t346], .slice (some ad365) t347.length co29, .agg #[.bool t350, .int .i64 x358001_21, .int .i64 x358002_21, .int .i64 t353, .int .i64 t354, .int .i64 t355], .agg #[.int .i64 2, .int .i64 ((rd_T37 t347 ji18).f0)]] (by rfl) rfl rfl (by (try simp only [List.map_toArray, List.map_cons, List.map_nil]); first | done | (simp only [hji18]; rfl) | rfl | (simp only [List.length_drop, List.length_take]; rfl)) ?_
              with_reducible refine (spec_Do.calls kj21 t342 t343 t344 t345 t346 _ _ t347 t350 x358001_21 x358002_21 t353 t354 t355 2 ((rd_T37 t347 ji18).f0) t378 t379 t380 t381 t382 t383 _ ?side1 ?side2 A52.out).mono ?_
              (case side1 => repeat (first | exact (Kd.R_reads' HO_6.out).2.2 | (with_reducible refine Kd.C_alloc ?_ _) | (with_reducible refine Kd.C_drewN ?_ _) | (with_reducible refine Kd.C_drew ?_)))
              (case side2 => exact (Kd.R_reads' HO_6.out).2.1)
              rintro e w63 ⟨rfl, hb⟩
              have HS17_ := (hb.cell (World.block_lt_of_cell? _ _ (hHeld.2.2.2.2.2.2.2.2.2.2.2.2.2.2.2.2.2.1))).trans (hHeld.2.2.2.2.2.2.2.2.2.2.2.2.2.2.2.2.2.1)
              have HS18_ := (hb.cell (World.block_lt_of_cell? _ _ (hHeld.2.2.2.2.2.2.2.2.2.2.2.2.2.2.2.2.2.2))).trans (hHeld.2.2.2.2.2.2.2.2.2.2.2.2.2.2.2.2.2.2)
              refine ⟨_, rfl, ?_⟩
              replace BK356 := zb BK356 hb
              replace BK357 := zb BK357 hb
              replace BK376 := zb BK376 hb
              replace HB := zB HB hb
              replace HO_6 := Aside0.mk (Kd.R_below (zr HO_6) hb)
              (try clear hb)
              refine hK.out _ _ ⟨zc BK376 0, zc BK376 1, zc BK376 2, zc BK376 3, zc BK376 4, zc BK376 5, zc BK356 0, zc BK356 1, zc BK356 2, zc BK356 3, zc BK356 4, zc BK357 0, zc BK357 1, zc BK357 2, zc BK357 3, zc BK357 4, zc BK357 5, HS17_, HS18_⟩ (fun hHeld => ?_)
              clear hK K
              refine zn 87 ?_
              refine zp 11 88 (zm 23 4095) HT_ ?_
              refine zp 12 89 (zm 23 8191) HT_ ?_
              refine zp 13 90 (zm 23 16383) HT_ ?_
              refine zt 14 91 (zm 23 32767) HT_ HW_ hHeld ?_
              refine zp 15 92 (zm 23 65535) HT_ ?_
              refine zp 16 93 (zm 23 131071) HT_ ?_
              refine zp 17 94 (zm 23 262143) HT_ ?_
              refine zpu 18 95 (zm 23 524287) HT_ ?_
              refine zpu 19 96 (zm 23 1048575) HT_ ?_
              refine zpu 20 97 (zm 23 2097151) HT_ ?_
              refine zpu 21 98 (zm 23 4194303) HT_ ?_
              refine zp 22 99 (zm 23 8388607) HT_ ?_
              refine done_ (done_of HT_.out (by kernel_rfl)) ?_
              try go_wp2
              refine Met.intro ?_
              go_step
              refine meetU ?rel (by kernel_rfl) (by kernel_rfl)
              case rel => exact ⟨_, (true), ze, H', ⟨by have := HJ2.out; have := HJ21.out; first | omega | exact Nat.le_refl _⟩, ⟨zy BK356⟩, ⟨zy BK357⟩, ⟨zy BK376⟩, ⟨by repeat (first | (with_reducible first | exact HB.out | apply below_alloc | apply pw_below_drewN | apply below_drew1 | refine below_set ?_ GE356.out | refine below_set ?_ GE357.out | refine below_set ?_ GE376.out) | exact HB.out)⟩⟩
           case rest =>
            intro u_3 wc hcut
            dsimp only [laws_FnRead.mask3, forgetL_s, forgetL_n, forgetL_e1, forgetL_e2]
            generalize u_3 99 = v99 at hcut ⊢
            clear HC41
            (try clear c1); (try clear p2); (try clear p3); (try clear q3); (try clear hx3); (try clear c5); (try clear c17); (try clear p37); (try clear q37); (try clear hx37); (try clear c53); (try clear c53b0); (try clear c57); (try clear c57b0); (try clear c57b1); (try clear hx377_0); (try clear hx377_1); (try clear p377); (try clear q377)
            obtain ⟨kq, x99_40, rfl, HA, HJ40, BK356, BK357, BK376, HB⟩ := hcut
            cases kq with
            | zero => exact absurd HA.out (by simp [laws_FnRead.j2])
            | succ kj40 =>
             have H := HA.out
             clear HA
             simp only [laws_FnRead.j2] at H
             by_cases c64 : x99_40 = true
             ·subst c64
              have H1 : (some false) = some r := by rw [if_pos rfl] at H; exact H
              clear H
              have H := H1
              clear H1
              exact absurd ((Option.some.inj H).trans HT.out) (by decide)
             ·replace c64 := Bool.eq_false_iff.mpr c64
              subst c64
              have H1 : (if x358001_21 > (wrap64 (((rd_T37 t347 (ji18)).f1) + t344)) then (laws_FnRead.j3 kj40 l1 ((rd_T37 t347 (ji18)).f1) true t342 t343 t344 t345 t346 t350 x358001_21 x358002_21 t353 t354 t355 t370 t371 t372 t373 t374 t375) else (laws_FnRead.j3 kj40 l1 ((rd_T37 t347 (ji18)).f1) (decide (x358002_21 < (wrap64 (((rd_T37 t347 (ji18)).f1) - t344)))) t342 t343 t344 t345 t346 t350 x358001_21 x358002_21 t353 t354 t355 t370 t371 t372 t373 t374 t375)) = some r := by rw [if_neg (show ¬ (false = true) by decide)] at H; exact H
              clear H
              have H := H1
              clear H1
              have HC65 := Aside0.mk H
              clear H
              go_upto_region 14 with (fail)
              refine wp_cutU laws_FnRead.mask4 (fun u_4 wc => ∃ (kq : Nat) (x117_64 : Bool), (u_4 117) = .bool x117_64 ∧ Aside0 (laws_FnRead.j3 kq l1 ((rd_T37 t347 (ji18)).f1) x117_64 t342 t343 t344 t345 t346 t350 x358001_21 x358002_21 t353 t354 t355 t370 t371 t372 t373 t374 t375 = some r) ∧ Aside0 (kq ≤ kj40) ∧ Aside0 (wc.heap[gb356]? = some (.cells #[.int .i64 t342, .int .i64 t343, .int .i64 t344, .int .i64 t345, .int .i64 t346] 24 (0, 0))) ∧ Aside0 (wc.heap[gb357]? = some (.cells #[.bool t350, .int .i64 x358001_21, .int .i64 x358002_21, .int .i64 t353, .int .i64 t354, .int .i64 t355] 29 (0, 0))) ∧ Aside0 (wc.heap[gb376]? = some (.cells #[.bool t370, .int .i64 t371, .int .i64 t372, .int .i64 t373, .int .i64 t374, .int .i64 t375] 29 (0, 0))) ∧ Aside0 (Below w.heap.size w wc)) ?rest ?first
              case first =>
               intro _ _ _ _
               have H := HC65.out
               clear HC65
               by_cases c66 : x358001_21 > (wrap64 (((rd_T37 t347 (ji18)).f1) + t344))
               ·rw [if_pos c66] at H
                have c66b0 : decide ((wrap64 (((rd_T37 t347 (ji18)).f1) + t344)) < x358001_21) = true := decide_eq_true c66
                clear c66
                (first | rw [c66b0] | (simp only [i64_w, i32_w]; rw [c66b0]) | skip)
                have H' := Aside0.mk H
                clear H
                have hnb67 := NB357_356.out
                have hnc67 := NB356_357.out
                have hnb68 := NB357_376.out
                have hnc68 := NB376_357.out
                obtain ⟨hcz69_0, hcz69_1, hcz69_2, hcz69_3, hcz69_4, hcz69_5, hfz69_0, hfz69_1, hfz69_2, hfz69_3, hfz69_4, hfz69_5⟩ := zs6 BK357
                have hnb70 := NB356_376.out
                have hnc70 := NB376_356.out
                obtain ⟨hcz71_0, hcz71_1, hcz71_2, hcz71_3, hcz71_4, hfz71_0, hfz71_1, hfz71_2, hfz71_3, hfz71_4⟩ := zs5 BK356
                go_wp2
                refine Met.intro ?_
                go_step
                refine meetU ?rel (by kernel_rfl) (by kernel_rfl)
                case rel => exact ⟨_, (true), ze, H', ⟨by have := HJ2.out; have := HJ21.out; have := HJ40.out; first | omega | exact Nat.le_refl _⟩, ⟨zy BK356⟩, ⟨zy BK357⟩, ⟨zy BK376⟩, ⟨by repeat (first | (with_reducible first | exact HB.out | apply below_alloc | apply pw_below_drewN | apply below_drew1 | refine below_set ?_ GE356.out | refine below_set ?_ GE357.out | refine below_set ?_ GE376.out) | exact HB.out)⟩⟩
               ·rw [if_neg c66] at H
                have c66b0 : decide ((wrap64 (((rd_T37 t347 (ji18)).f1) + t344)) < x358001_21) = false := decide_eq_false c66
                clear c66
                (first | rw [c66b0] | (simp only [i64_w, i32_w]; rw [c66b0]) | skip)
                have H' := Aside0.mk H
                clear H
                have hnb72 := NB357_356.out
                have hnc72 := NB356_357.out
                have hnb73 := NB357_376.out
                have hnc73 := NB376_357.out
                obtain ⟨hcz74_0, hcz74_1, hcz74_2, hcz74_3, hcz74_4, hcz74_5, hfz74_0, hfz74_1, hfz74_2, hfz74_3, hfz74_4, hfz74_5⟩ := zs6 BK357
                have hnb75 := NB356_376.out
                have hnc75 := NB376_356.out
                obtain ⟨hcz76_0, hcz76_1, hcz76_2, hcz76_3, hcz76_4, hfz76_0, hfz76_1, hfz76_2, hfz76_3, hfz76_4⟩ := zs5 BK356
                go_wp2
                refine Met.intro ?_
                go_step
                refine meetU ?rel (by kernel_rfl) (by kernel_rfl)
                case rel => exact ⟨_, (decide (x358002_21 < (wrap64 (((rd_T37 t347 (ji18)).f1) - t344)))), (by first | rfl | (simp; done) | (simp only [← hji18] <;> (first | rfl | simp)) | (simp [*]; done)), H', ⟨by have := HJ2.out; have := HJ21.out; have := HJ40.out; first | omega | exact Nat.le_refl _⟩, ⟨zy BK356⟩, ⟨zy BK357⟩, ⟨zy BK376⟩, ⟨by repeat (first | (with_reducible first | exact HB.out | apply below_alloc | apply pw_below_drewN | apply below_drew1 | refine below_set ?_ GE356.out | refine below_set ?_ GE357.out | refine below_set ?_ GE376.out) | exact HB.out)⟩⟩
              case rest =>
               intro u_4 wc hcut
               dsimp only [laws_FnRead.mask4, forgetL_s, forgetL_n, forgetL_e1, forgetL_e2]
               generalize u_4 117 = v117 at hcut ⊢
               clear HC65
               (try clear c1); (try clear p2); (try clear p3); (try clear q3); (try clear hx3); (try clear c5); (try clear c6); (try clear p6); (try clear c7); (try clear c17); (try clear p37); (try clear q37); (try clear hx37); (try clear c53); (try clear c53b0); (try clear c57); (try clear c57b0); (try clear c57b1); (try clear c64); (try clear p64); (try clear c66); (try clear c66b0); (try clear c67); (try clear c68); (try clear c70); (try clear c72); (try clear c73); (try clear c75); (try clear hcz69_0); (try clear hcz69_1); (try clear hcz69_2); (try clear hcz69_3); (try clear hcz69_4); (try clear hcz69_5); (try clear hcz71_0); (try clear hcz71_1); (try clear hcz71_2); (try clear hcz71_3); (try clear hcz71_4); (try clear hcz74_0); (try clear hcz74_1); (try clear hcz74_2); (try clear hcz74_3); (try clear hcz74_4); (try clear hcz74_5); (try clear hcz76_0); (try clear hcz76_1); (try clear hcz76_2); (try clear hcz76_3); (try clear hcz76_4); (try clear hfz69_0); (try clear hfz69_1); (try clear hfz69_2); (try clear hfz69_3); (try clear hfz69_4); (try clear hfz69_5); (try clear hfz71_0); (try clear hfz71_1); (try clear hfz71_2); (try clear hfz71_3); (try clear hfz71_4); (try clear hfz74_0); (try clear hfz74_1); (try clear hfz74_2); (try clear hfz74_3); (try clear hfz74_4); (try clear hfz74_5); (try clear hfz76_0); (try clear hfz76_1); (try clear hfz76_2); (try clear hfz76_3); (try clear hfz76_4); (try clear hx377_0); (try clear hx377_1); (try clear p2); (try clear p3); (try clear p37); (try clear p377); (try clear q3); (try clear q37); (try clear q377)
               obtain ⟨kq, x117_64, rfl, HA, HJ64, BK356, BK357, BK376, HB⟩ := hcut
               cases kq with
               | zero => exact absurd HA.out (by simp [laws_FnRead.j3])
               | succ kj64 =>
                have H := HA.out
                clear HA
                simp only [laws_FnRead.j3] at H
                by_cases c77 : x117_64 = true
                ·subst c77
                 have H1 : (if t375 = 1 then (if t371 ≤ x358001_21 then (if t371 ≤ (wrap64 (((rd_T37 t347 (ji18)).f1) - t344)) then (if t372 ≥ x358002_21 then (some (decide (t372 ≥ (wrap64 (((rd_T37 t347 (ji18)).f1) + t344))))) else (some false)) else (some false)) else (some false)) else (some false)) = some r := by rw [if_pos rfl] at H; exact H
                 clear H
                 have H := H1
                 clear H1
                 by_cases c78 : t375 = 1
                 ·rw [if_pos c78] at H
                  have c78b0 : (t375 == 1) = true := beq_iff_eq.mpr c78
                  have c78b1 : (t375 != 1) = false := bne_eq_false_iff_eq.mpr c78
                  clear c78
                  by_cases c79 : t371 ≤ x358001_21
                  ·rw [if_pos c79] at H
                   have c79b0 : decide (t371 ≤ x358001_21) = true := decide_eq_true c79
                   clear c79
                   by_cases c80 : t371 ≤ (wrap64 (((rd_T37 t347 (ji18)).f1) - t344))
                   ·rw [if_pos c80] at H
                    have c80b0 : decide (t371 ≤ (wrap64 (((rd_T37 t347 (ji18)).f1) - t344))) = true := decide_eq_true c80
                    clear c80
                    by_cases c81 : t372 ≥ x358002_21
                    ·rw [if_pos c81] at H
                     have c81b0 : decide (x358002_21 ≤ t372) = true := decide_eq_true c81
                     clear c81
                     obtain rfl := Option.some.inj H
                     have hnb82 := NB376_356.out
                     have hnc82 := NB356_376.out
                     have hnb83 := NB376_357.out
                     have hnc83 := NB357_376.out
                     obtain ⟨hcz84_0, hcz84_1, hcz84_2, hcz84_3, hcz84_4, hcz84_5, hfz84_0, hfz84_1, hfz84_2, hfz84_3, hfz84_4, hfz84_5⟩ := zs6 BK376
                     have hnb85 := NB357_356.out
                     have hnc85 := NB356_357.out
                     obtain ⟨hcz86_0, hcz86_1, hcz86_2, hcz86_3, hcz86_4, hcz86_5, hfz86_0, hfz86_1, hfz86_2, hfz86_3, hfz86_4, hfz86_5⟩ := zs6 BK357
                     obtain ⟨hcz87_0, hcz87_1, hcz87_2, hcz87_3, hcz87_4, hfz87_0, hfz87_1, hfz87_2, hfz87_3, hfz87_4⟩ := zs5 BK356
                     go_wp2
                     go_ret
                     exact ⟨by first | rfl | (simp [errW_none, errW_some] <;> rfl) | (simp only [← hji18]; first | rfl | (simp [errW_none, errW_some] <;> rfl)) | (simp [*, errW_none, errW_some] <;> rfl), by repeat (first | (with_reducible first | exact HB.out | apply below_alloc | apply pw_below_drewN | apply below_drew1 | refine below_set ?_ GE356.out | refine below_set ?_ GE357.out | refine below_set ?_ GE376.out) | exact HB.out)⟩
                    ·rw [if_neg c81] at H
                     have c81b0 : decide (x358002_21 ≤ t372) = false := decide_eq_false c81
                     clear c81
                     exact absurd ((Option.some.inj H).trans HT.out) (by decide)
                   ·rw [if_neg c80] at H
                    have c80b0 : decide (t371 ≤ (wrap64 (((rd_T37 t347 (ji18)).f1) - t344))) = false := decide_eq_false c80
                    clear c80
                    exact absurd ((Option.some.inj H).trans HT.out) (by decide)
                  ·rw [if_neg c79] at H
                   have c79b0 : decide (t371 ≤ x358001_21) = false := decide_eq_false c79
                   clear c79
                   exact absurd ((Option.some.inj H).trans HT.out) (by decide)
                 ·rw [if_neg c78] at H
                  have c78b0 : (t375 == 1) = false := beq_eq_false_iff_ne.mpr c78
                  have c78b1 : (t375 != 1) = true := bne_iff_ne.mpr c78
                  exact absurd ((Option.some.inj H).trans HT.out) (by decide)
                ·replace c77 := Bool.eq_false_iff.mpr c77
                 subst c77
                 have H1 : (laws_FnRead.l0 kj64 l1 ((rd_T37 t347 (ji18)).f1) 0 t342 t343 t344 t345 t346 t350 x358001_21 x358002_21 t353 t354 t355 t370 t371 t372 t373 t374 t375) = some r := by rw [if_neg (show ¬ (false = true) by decide)] at H; exact H
                 clear H
                 have H := H1
                 clear H1
                 have H' := Aside0.mk H
                 clear H
                 go_wp2
                 refine wp_loopU laws_FnRead.mask5 kj64 (fun kq u_5 w' => ∃ (x11_5 : Int), (u_5 11) = .int .i64 x11_5 ∧ Aside0 (laws_FnRead.l0 kq l1 ((rd_T37 t347 (ji18)).f1) x11_5 t342 t343 t344 t345 t346 t350 x358001_21 x358002_21 t353 t354 t355 t370 t371 t372 t373 t374 t375 = some r) ∧ Aside0 (kq ≤ kj64) ∧ Aside0 (w'.heap[gb356]? = some (.cells #[.int .i64 t342, .int .i64 t343, .int .i64 t344, .int .i64 t345, .int .i64 t346] 24 (0, 0))) ∧ Aside0 (w'.heap[gb357]? = some (.cells #[.bool t350, .int .i64 x358001_21, .int .i64 x358002_21, .int .i64 t353, .int .i64 t354, .int .i64 t355] 29 (0, 0))) ∧ Aside0 (w'.heap[gb376]? = some (.cells #[.bool t370, .int .i64 t371, .int .i64 t372, .int .i64 t373, .int .i64 t374, .int .i64 t375] 29 (0, 0))) ∧ Aside0 (Below w.heap.size w w')) (by kernel_rfl) (by kernel_rfl) ?atStart ?round
                 case atStart => exact ⟨(0), ze, H', ⟨Nat.le_refl _⟩, ⟨zy BK356⟩, ⟨zy BK357⟩, ⟨zy BK376⟩, ⟨by repeat (first | (with_reducible first | exact HB.out | apply below_alloc | apply pw_below_drewN | apply below_drew1 | refine below_set ?_ GE356.out | refine below_set ?_ GE357.out | refine below_set ?_ GE376.out) | exact HB.out)⟩⟩
                 case round =>
                  intro gk u_5 wr hrel _ _ _ _
                  dsimp only [laws_FnRead.mask5, forgetL_s, forgetL_n, forgetL_e1, forgetL_e2]
                  generalize u_5 11 = v11 at hrel ⊢
                  clear H'
                  (try clear c1); (try clear p2); (try clear p3); (try clear q3); (try clear hx3); (try clear c5); (try clear c6); (try clear p6); (try clear c7); (try clear c8); (try clear c17); (try clear p37); (try clear q37); (try clear hx37); (try clear c53); (try clear c53b0); (try clear c57); (try clear c57b0); (try clear c57b1); (try clear c64); (try clear p64); (try clear c66); (try clear c66b0); (try clear c67); (try clear c68); (try clear c70); (try clear c72); (try clear c73); (try clear c75); (try clear c77); (try clear c78); (try clear c78b0); (try clear c78b1); (try clear c79); (try clear c79b0); (try clear c80); (try clear c80b0); (try clear c81); (try clear c81b0); (try clear c82); (try clear c83); (try clear c85); (try clear hcz69_0); (try clear hcz69_1); (try clear hcz69_2); (try clear hcz69_3); (try clear hcz69_4); (try clear hcz69_5); (try clear hcz71_0); (try clear hcz71_1); (try clear hcz71_2); (try clear hcz71_3); (try clear hcz71_4); (try clear hcz74_0); (try clear hcz74_1); (try clear hcz74_2); (try clear hcz74_3); (try clear hcz74_4); (try clear hcz74_5); (try clear hcz76_0); (try clear hcz76_1); (try clear hcz76_2); (try clear hcz76_3); (try clear hcz76_4); (try clear hcz84_0); (try clear hcz84_1); (try clear hcz84_2); (try clear hcz84_3); (try clear hcz84_4); (try clear hcz84_5); (try clear hcz86_0); (try clear hcz86_1); (try clear hcz86_2); (try clear hcz86_3); (try clear hcz86_4); (try clear hcz86_5); (try clear hcz87_0); (try clear hcz87_1); (try clear hcz87_2); (try clear hcz87_3); (try clear hcz87_4); (try clear hfz69_0); (try clear hfz69_1); (try clear hfz69_2); (try clear hfz69_3); (try clear hfz69_4); (try clear hfz69_5); (try clear hfz71_0); (try clear hfz71_1); (try clear hfz71_2); (try clear hfz71_3); (try clear hfz71_4); (try clear hfz74_0); (try clear hfz74_1); (try clear hfz74_2); (try clear hfz74_3); (try clear hfz74_4); (try clear hfz74_5); (try clear hfz76_0); (try clear hfz76_1); (try clear hfz76_2); (try clear hfz76_3); (try clear hfz76_4); (try clear hfz84_0); (try clear hfz84_1); (try clear hfz84_2); (try clear hfz84_3); (try clear hfz84_4); (try clear hfz84_5); (try clear hfz86_0); (try clear hfz86_1); (try clear hfz86_2); (try clear hfz86_3); (try clear hfz86_4); (try clear hfz86_5); (try clear hfz87_0); (try clear hfz87_1); (try clear hfz87_2); (try clear hfz87_3); (try clear hfz87_4); (try clear hx377_0); (try clear hx377_1); (try clear p2); (try clear p3); (try clear p37); (try clear p377); (try clear p6); (try clear p64); (try clear q3); (try clear q37); (try clear q377)
                  obtain ⟨x11_5, rfl, HA, HK5, BK356, BK357, BK376, HB⟩ := hrel
                  cases gk with
                  | zero => exact absurd HA.out (by simp [laws_FnRead.l0])
                  | succ k5 =>
                   have H := HA.out
                   clear HA
                   simp only [laws_FnRead.l0] at H
                   by_cases c88 : x11_5 < 20
                   ·rw [if_pos c88] at H
                    have c88b0 : decide (x11_5 < 20) = true := decide_eq_true c88
                    clear c88
                    replace H := Option.bind_eq_some_iff.mp H
                    obtain ⟨t384, A890, H⟩ := H
                    replace H : (if (wrap64 ((wrap64 (((rd_T37 t347 (ji18)).f1) + (wrap64 (Int.tdiv (wrap64 (t384 * (wrap64 (t344 + 1)))) 100)))) - t344)) ≥ x358001_21 then (if (wrap64 ((wrap64 (((rd_T37 t347 (ji18)).f1) + (wrap64 (Int.tdiv (wrap64 (t384 * (wrap64 (t344 + 1)))) 100)))) - t344)) ≤ x358002_21 then (if (wrap64 ((wrap64 (((rd_T37 t347 (ji18)).f1) + (wrap64 (Int.tdiv (wrap64 (t384 * (wrap64 (t344 + 1)))) 100)))) - t344)) ≥ (wrap64 (((rd_T37 t347 (ji18)).f1) - t344)) then (if (wrap64 ((wrap64 (((rd_T37 t347 (ji18)).f1) + (wrap64 (Int.tdiv (wrap64 (t384 * (wrap64 (t344 + 1)))) 100)))) - t344)) ≥ t371 then (if ((decide ((wrap64 ((wrap64 (((rd_T37 t347 (ji18)).f1) + (wrap64 (Int.tdiv (wrap64 (t384 * (wrap64 (t344 + 1)))) 100)))) - t344)) ≤ (wrap64 (((rd_T37 t347 (ji18)).f1) + t344)))) != (decide ((wrap64 ((wrap64 (((rd_T37 t347 (ji18)).f1) + (wrap64 (Int.tdiv (wrap64 (t384 * (wrap64 (t344 + 1)))) 100)))) - t344)) ≤ t372))) = true then (some false) else (laws_FnRead.l0 k5 l1 ((rd_T37 t347 (ji18)).f1) (wrap64 (x11_5 + 1)) t342 t343 t344 t345 t346 t350 x358001_21 x358002_21 t353 t354 t355 t370 t371 t372 t373 t374 t375)) else (if ((decide ((wrap64 ((wrap64 (((rd_T37 t347 (ji18)).f1) + (wrap64 (Int.tdiv (wrap64 (t384 * (wrap64 (t344 + 1)))) 100)))) - t344)) ≤ (wrap64 (((rd_T37 t347 (ji18)).f1) + t344)))) != false) = true then (some false) else (laws_FnRead.l0 k5 l1 ((rd_T37 t347 (ji18)).f1) (wrap64 (x11_5 + 1)) t342 t343 t344 t345 t346 t350 x358001_21 x358002_21 t353 t354 t355 t370 t371 t372 t373 t374 t375))) else (if (wrap64 ((wrap64 (((rd_T37 t347 (ji18)).f1) + (wrap64 (Int.tdiv (wrap64 (t384 * (wrap64 (t344 + 1)))) 100)))) - t344)) ≥ t371 then (if (false != (decide ((wrap64 ((wrap64 (((rd_T37 t347 (ji18)).f1) + (wrap64 (Int.tdiv (wrap64 (t384 * (wrap64 (t344 + 1)))) 100)))) - t344)) ≤ t372))) = true then (some false) else (laws_FnRead.l0 k5 l1 ((rd_T37 t347 (ji18)).f1) (wrap64 (x11_5 + 1)) t342 t343 t344 t345 t346 t350 x358001_21 x358002_21 t353 t354 t355 t370 t371 t372 t373 t374 t375)) else (if (false != false) = true then (some false) else (laws_FnRead.l0 k5 l1 ((rd_T37 t347 (ji18)).f1) (wrap64 (x11_5 + 1)) t342 t343 t344 t345 t346 t350 x358001_21 x358002_21 t353 t354 t355 t370 t371 t372 t373 t374 t375)))) else (if (wrap64 ((wrap64 (((rd_T37 t347 (ji18)).f1) + (wrap64 (Int.tdiv (wrap64 (t384 * (wrap64 (t344 + 1)))) 100)))) - t344)) ≥ t371 then (if (false != (decide ((wrap64 ((wrap64 (((rd_T37 t347 (ji18)).f1) + (wrap64 (Int.tdiv (wrap64 (t384 * (wrap64 (t344 + 1)))) 100)))) - t344)) ≤ t372))) = true then (some false) else (laws_FnRead.l0 k5 l1 ((rd_T37 t347 (ji18)).f1) (wrap64 (x11_5 + 1)) t342 t343 t344 t345 t346 t350 x358001_21 x358002_21 t353 t354 t355 t370 t371 t372 t373 t374 t375)) else (if (false != false) = true then (some false) else (laws_FnRead.l0 k5 l1 ((rd_T37 t347 (ji18)).f1) (wrap64 (x11_5 + 1)) t342 t343 t344 t345 t346 t350 x358001_21 x358002_21 t353 t354 t355 t370 t371 t372 t373 t374 t375)))) else (if (wrap64 ((wrap64 (((rd_T37 t347 (ji18)).f1) + (wrap64 (Int.tdiv (wrap64 (t384 * (wrap64 (t344 + 1)))) 100)))) - t344)) ≥ t371 then (if (false != (decide ((wrap64 ((wrap64 (((rd_T37 t347 (ji18)).f1) + (wrap64 (Int.tdiv (wrap64 (t384 * (wrap64 (t344 + 1)))) 100)))) - t344)) ≤ t372))) = true then (some false) else (laws_FnRead.l0 k5 l1 ((rd_T37 t347 (ji18)).f1) (wrap64 (x11_5 + 1)) t342 t343 t344 t345 t346 t350 x358001_21 x358002_21 t353 t354 t355 t370 t371 t372 t373 t374 t375)) else (if (false != false) = true then (some false) else (laws_FnRead.l0 k5 l1 ((rd_T37 t347 (ji18)).f1) (wrap64 (x11_5 + 1)) t342 t343 t344 t345 t346 t350 x358001_21 x358002_21 t353 t354 t355 t370 t371 t372 t373 t374 t375)))) = some r := H
                    have A89 := Aside0.mk A890
                    clear A890
                    by_cases c90 : (wrap64 ((wrap64 (((rd_T37 t347 (ji18)).f1) + (wrap64 (Int.tdiv (wrap64 (t384 * (wrap64 (t344 + 1)))) 100)))) - t344)) ≥ x358001_21
                    ·rw [if_pos c90] at H
                     have c90b0 : decide (x358001_21 ≤ (wrap64 ((wrap64 (((rd_T37 t347 (ji18)).f1) + (wrap64 (Int.tdiv (wrap64 (t384 * (wrap64 (t344 + 1)))) 100)))) - t344))) = true := decide_eq_true c90
                     clear c90
                     by_cases c91 : (wrap64 ((wrap64 (((rd_T37 t347 (ji18)).f1) + (wrap64 (Int.tdiv (wrap64 (t384 * (wrap64 (t344 + 1)))) 100)))) - t344)) ≤ x358002_21
                     ·rw [if_pos c91] at H
                      have c91b0 : decide ((wrap64 ((wrap64 (((rd_T37 t347 (ji18)).f1) + (wrap64 (Int.tdiv (wrap64 (t384 * (wrap64 (t344 + 1)))) 100)))) - t344)) ≤ x358002_21) = true := decide_eq_true c91
                      clear c91
                      by_cases c92 : (wrap64 ((wrap64 (((rd_T37 t347 (ji18)).f1) + (wrap64 (Int.tdiv (wrap64 (t384 * (wrap64 (t344 + 1)))) 100)))) - t344)) ≥ (wrap64 (((rd_T37 t347 (ji18)).f1) - t344))
                      ·rw [if_pos c92] at H
                       have c92b0 : decide ((wrap64 (((rd_T37 t347 (ji18)).f1) - t344)) ≤ (wrap64 ((wrap64 (((rd_T37 t347 (ji18)).f1) + (wrap64 (Int.tdiv (wrap64 (t384 * (wrap64 (t344 + 1)))) 100)))) - t344))) = true := decide_eq_true c92
                       clear c92
                       by_cases c93 : (wrap64 ((wrap64 (((rd_T37 t347 (ji18)).f1) + (wrap64 (Int.tdiv (wrap64 (t384 * (wrap64 (t344 + 1)))) 100)))) - t344)) ≥ t371
                       ·rw [if_pos c93] at H
                        have c93b0 : decide (t371 ≤ (wrap64 ((wrap64 (((rd_T37 t347 (ji18)).f1) + (wrap64 (Int.tdiv (wrap64 (t384 * (wrap64 (t344 + 1)))) 100)))) - t344))) = true := decide_eq_true c93
                        clear c93
                        by_cases c94 : ((decide ((wrap64 ((wrap64 (((rd_T37 t347 (ji18)).f1) + (wrap64 (Int.tdiv (wrap64 (t384 * (wrap64 (t344 + 1)))) 100)))) - t344)) ≤ (wrap64 (((rd_T37 t347 (ji18)).f1) + t344)))) != (decide ((wrap64 ((wrap64 (((rd_T37 t347 (ji18)).f1) + (wrap64 (Int.tdiv (wrap64 (t384 * (wrap64 (t344 + 1)))) 100)))) - t344)) ≤ t372))) = true
                        ·rw [if_pos c94] at H
                         have c94b0 : ((decide ((wrap64 ((wrap64 (((rd_T37 t347 (ji18)).f1) + (wrap64 (Int.tdiv (wrap64 (t384 * (wrap64 (t344 + 1)))) 100)))) - t344)) ≤ (wrap64 (((rd_T37 t347 (ji18)).f1) + t344)))) != (decide ((wrap64 ((wrap64 (((rd_T37 t347 (ji18)).f1) + (wrap64 (Int.tdiv (wrap64 (t384 * (wrap64 (t344 + 1)))) 100)))) - t344)) ≤ t372))) = true := c94
                         (try (have c94b1 : decide ((decide ((wrap64 ((wrap64 (((rd_T37 t347 (ji18)).f1) + (wrap64 (Int.tdiv (wrap64 (t384 * (wrap64 (t344 + 1)))) 100)))) - t344)) ≤ (wrap64 (((rd_T37 t347 (ji18)).f1) + t344)))) = (decide ((wrap64 ((wrap64 (((rd_T37 t347 (ji18)).f1) + (wrap64 (Int.tdiv (wrap64 (t384 * (wrap64 (t344 + 1)))) 100)))) - t344)) ≤ t372))) = false := by simpa using c94))
                         (try (have c94b2 : ((decide ((wrap64 ((wrap64 (((rd_T37 t347 (ji18)).f1) + (wrap64 (Int.tdiv (wrap64 (t384 * (wrap64 (t344 + 1)))) 100)))) - t344)) ≤ (wrap64 (((rd_T37 t347 (ji18)).f1) + t344)))) == (decide ((wrap64 ((wrap64 (((rd_T37 t347 (ji18)).f1) + (wrap64 (Int.tdiv (wrap64 (t384 * (wrap64 (t344 + 1)))) 100)))) - t344)) ≤ t372))) = false := by simpa using c94))
                         (try (have c94b3 : ¬ ((decide ((wrap64 ((wrap64 (((rd_T37 t347 (ji18)).f1) + (wrap64 (Int.tdiv (wrap64 (t384 * (wrap64 (t344 + 1)))) 100)))) - t344)) ≤ (wrap64 (((rd_T37 t347 (ji18)).f1) + t344)))) = (decide ((wrap64 ((wrap64 (((rd_T37 t347 (ji18)).f1) + (wrap64 (Int.tdiv (wrap64 (t384 * (wrap64 (t344 + 1)))) 100)))) - t344)) ≤ t372))) := by simpa using c94))
                         clear c94
                         exact absurd ((Option.some.inj H).trans HT.out) (by decide)
                        ·rw [if_neg c94] at H
                         have c94b0 : ((decide ((wrap64 ((wrap64 (((rd_T37 t347 (ji18)).f1) + (wrap64 (Int.tdiv (wrap64 (t384 * (wrap64 (t344 + 1)))) 100)))) - t344)) ≤ (wrap64 (((rd_T37 t347 (ji18)).f1) + t344)))) != (decide ((wrap64 ((wrap64 (((rd_T37 t347 (ji18)).f1) + (wrap64 (Int.tdiv (wrap64 (t384 * (wrap64 (t344 + 1)))) 100)))) - t344)) ≤ t372))) = false := by simpa using c94
                         (try (have c94b1 : decide ((decide ((wrap64 ((wrap64 (((rd_T37 t347 (ji18)).f1) + (wrap64 (Int.tdiv (wrap64 (t384 * (wrap64 (t344 + 1)))) 100)))) - t344)) ≤ (wrap64 (((rd_T37 t347 (ji18)).f1) + t344)))) = (decide ((wrap64 ((wrap64 (((rd_T37 t347 (ji18)).f1) + (wrap64 (Int.tdiv (wrap64 (t384 * (wrap64 (t344 + 1)))) 100)))) - t344)) ≤ t372))) = true := by simpa using c94))
                         (try (have c94b2 : ((decide ((wrap64 ((wrap64 (((rd_T37 t347 (ji18)).f1) + (wrap64 (Int.tdiv (wrap64 (t384 * (wrap64 (t344 + 1)))) 100)))) - t344)) ≤ (wrap64 (((rd_T37 t347 (ji18)).f1) + t344)))) == (decide ((wrap64 ((wrap64 (((rd_T37 t347 (ji18)).f1) + (wrap64 (Int.tdiv (wrap64 (t384 * (wrap64 (t344 + 1)))) 100)))) - t344)) ≤ t372))) = true := by simpa using c94))
                         clear c94
                         have H' := Aside0.mk H
                         clear H
                         try go_wp2
                         have n0_ := Aside0.mk (blk_drew BK356.out)
                         have n1_ := Aside0.mk (blk_drew BK357.out)
                         have n2_ := Aside0.mk (blk_drew BK376.out)
                         have n3_ := Aside0.mk (below_drew1 HB.out)
                         clear BK356 BK357 BK376 HB
                         have BK356 := n0_
                         have BK357 := n1_
                         have BK376 := n2_
                         have HB := n3_
                         clear n0_ n1_ n2_ n3_
                         refine start_ (n := 14) (S := fun w' => w'.cell? ⟨gb356, 0, none⟩ = some (.int .i64 t342) ∧ w'.cell? ⟨gb356, 1, none⟩ = some (.int .i64 t343) ∧ w'.cell? ⟨gb356, 2, none⟩ = some (.int .i64 t344) ∧ w'.cell? ⟨gb356, 3, none⟩ = some (.int .i64 t345) ∧ w'.cell? ⟨gb356, 4, none⟩ = some (.int .i64 t346)) (ds := []) #[false, false, false, false, false, false, false, false, false, false, false, false, false, false] (by kernel_rfl) rfl rfl ⟨zc BK356 0, zc BK356 1, zc BK356 2, zc BK356 3, zc BK356 4⟩ (fun hHeld => ?_); refine with_tabW laws_FnRead.tab19 laws_FnRead.bits19 (fun HT_ HW_ => ?_)
                         generalize wr.drew = w95 at BK356 BK357 BK376 HB hHeld ⊢
                         refine zp 0 163 (zm 14 1) HT_ ?_
                         refine zp 1 164 (zm 14 3) HT_ ?_
                         refine zp 2 165 (zm 14 7) HT_ ?_
                         refine zp 4 167 (zm 14 23) HT_ ?_
                         refine zp 10 173 (zm 14 1047) HT_ ?_
                         refine zt 5 168 (zm 14 1079) HT_ HW_ hHeld ?_
                         refine zp 6 169 (zm 14 1143) HT_ ?_
                         refine zt 11 174 (zm 14 3191) HT_ HW_ hHeld ?_
                         refine zo 3 (some 166) (zm 14 3199) HT_ (fun K hK => ?_)
                         refine zG Try.func16 #[.slice A1 l1.length c1, .int .i64 x11_5] ?_
                         with_reducible refine (laws_wByte.calls _ _ l1 x11_5 t384 _ ?side1 ?side2 A89.out).mono ?_
                         (case side1 => repeat (first | exact (Kd.C_below HR1.out HB.out) | (with_reducible refine Kd.C_alloc ?_ _) | (with_reducible refine Kd.C_drewN ?_ _) | (with_reducible refine Kd.C_drew ?_)))
                         (case side2 => exact HC1.out)
                         rintro e w' ⟨rfl, ⟨nd, rfl⟩⟩
                         refine ⟨_, rfl, ?_⟩
                         refine hK.out _ _ ⟨zc BK356 0, zc BK356 1, zc BK356 2, zc BK356 3, zc BK356 4⟩ (fun hHeld => ?_)
                         clear hK K
                         refine zn 166 ?_
                         refine zp 7 170 (zm 14 3327) HT_ ?_
                         refine zp 8 171 (zm 14 3583) HT_ ?_
                         refine zp 9 172 (zm 14 4095) HT_ ?_
                         refine zp 12 175 (zm 14 8191) HT_ ?_
                         refine zp 13 12 (zm 14 16383) HT_ ?_
                         refine done_ (done_of HT_.out (by kernel_rfl)) ?_
                         have hnb96 := NB357_356.out
                         have hnc96 := NB356_357.out
                         have hnb97 := NB357_376.out
                         have hnc97 := NB376_357.out
                         obtain ⟨hcz98_0, hcz98_1, hcz98_2, hcz98_3, hcz98_4, hcz98_5, hfz98_0, hfz98_1, hfz98_2, hfz98_3, hfz98_4, hfz98_5⟩ := zs6 BK357
                         have hnb99 := NB356_376.out
                         have hnc99 := NB376_356.out
                         obtain ⟨hcz100_0, hcz100_1, hcz100_2, hcz100_3, hcz100_4, hfz100_0, hfz100_1, hfz100_2, hfz100_3, hfz100_4⟩ := zs5 BK356
                         obtain ⟨hcz101_0, hcz101_1, hcz101_2, hcz101_3, hcz101_4, hcz101_5, hfz101_0, hfz101_1, hfz101_2, hfz101_3, hfz101_4, hfz101_5⟩ := zs6 BK376
                         try go_wp2
                         refine Handed.intro k5 ?measure ?_
                         rotate_left
                         go_step
                         refine meetU ?rel (by kernel_rfl) (by kernel_rfl)
                         case measure => have := HJ2.out; have := HJ21.out; have := HJ40.out; have := HJ64.out; have := HK5.out; omega
                         case rel => exact ⟨(wrap64 (x11_5 + 1)), ze, H', ⟨by have := HJ2.out; have := HJ21.out; have := HJ40.out; have := HJ64.out; have := HK5.out; omega⟩, ⟨zy BK356⟩, ⟨zy BK357⟩, ⟨zy BK376⟩, ⟨by repeat (first | (with_reducible first | exact HB.out | apply below_alloc | apply pw_below_drewN | apply below_drew1 | refine below_set ?_ GE356.out | refine below_set ?_ GE357.out | refine below_set ?_ GE376.out) | exact HB.out)⟩⟩
                       ·rw [if_neg c93] at H
                        have c93b0 : decide (t371 ≤ (wrap64 ((wrap64 (((rd_T37 t347 (ji18)).f1) + (wrap64 (Int.tdiv (wrap64 (t384 * (wrap64 (t344 + 1)))) 100)))) - t344))) = false := decide_eq_false c93
                        clear c93
                        by_cases c102 : ((decide ((wrap64 ((wrap64 (((rd_T37 t347 (ji18)).f1) + (wrap64 (Int.tdiv (wrap64 (t384 * (wrap64 (t344 + 1)))) 100)))) - t344)) ≤ (wrap64 (((rd_T37 t347 (ji18)).f1) + t344)))) != false) = true
                        ·rw [if_pos c102] at H
                         have c102b0 : ((decide ((wrap64 ((wrap64 (((rd_T37 t347 (ji18)).f1) + (wrap64 (Int.tdiv (wrap64 (t384 * (wrap64 (t344 + 1)))) 100)))) - t344)) ≤ (wrap64 (((rd_T37 t347 (ji18)).f1) + t344)))) != false) = true := c102
                         (try (have c102b1 : decide ((decide ((wrap64 ((wrap64 (((rd_T37 t347 (ji18)).f1) + (wrap64 (Int.tdiv (wrap64 (t384 * (wrap64 (t344 + 1)))) 100)))) - t344)) ≤ (wrap64 (((rd_T37 t347 (ji18)).f1) + t344)))) = false) = false := by simpa using c102))
                         (try (have c102b2 : ((decide ((wrap64 ((wrap64 (((rd_T37 t347 (ji18)).f1) + (wrap64 (Int.tdiv (wrap64 (t384 * (wrap64 (t344 + 1)))) 100)))) - t344)) ≤ (wrap64 (((rd_T37 t347 (ji18)).f1) + t344)))) == false) = false := by simpa using c102))
                         (try (have c102b3 : ¬ ((decide ((wrap64 ((wrap64 (((rd_T37 t347 (ji18)).f1) + (wrap64 (Int.tdiv (wrap64 (t384 * (wrap64 (t344 + 1)))) 100)))) - t344)) ≤ (wrap64 (((rd_T37 t347 (ji18)).f1) + t344)))) = false) := by simpa using c102))
                         clear c102
                         exact absurd ((Option.some.inj H).trans HT.out) (by decide)
                        ·rw [if_neg c102] at H
                         have c102b0 : ((decide ((wrap64 ((wrap64 (((rd_T37 t347 (ji18)).f1) + (wrap64 (Int.tdiv (wrap64 (t384 * (wrap64 (t344 + 1)))) 100)))) - t344)) ≤ (wrap64 (((rd_T37 t347 (ji18)).f1) + t344)))) != false) = false := by simpa using c102
                         (try (have c102b1 : decide ((decide ((wrap64 ((wrap64 (((rd_T37 t347 (ji18)).f1) + (wrap64 (Int.tdiv (wrap64 (t384 * (wrap64 (t344 + 1)))) 100)))) - t344)) ≤ (wrap64 (((rd_T37 t347 (ji18)).f1) + t344)))) = false) = true := by simpa using c102))
                         (try (have c102b2 : ((decide ((wrap64 ((wrap64 (((rd_T37 t347 (ji18)).f1) + (wrap64 (Int.tdiv (wrap64 (t384 * (wrap64 (t344 + 1)))) 100)))) - t344)) ≤ (wrap64 (((rd_T37 t347 (ji18)).f1) + t344)))) == false) = true := by simpa using c102))
                         clear c102
                         have H' := Aside0.mk H
                         clear H
                         try go_wp2
                         have n0_ := Aside0.mk (blk_drew BK356.out)
                         have n1_ := Aside0.mk (blk_drew BK357.out)
                         have n2_ := Aside0.mk (blk_drew BK376.out)
                         have n3_ := Aside0.mk (below_drew1 HB.out)
                         clear BK356 BK357 BK376 HB
                         have BK356 := n0_
                         have BK357 := n1_
                         have BK376 := n2_
                         have HB := n3_
                         clear n0_ n1_ n2_ n3_
                         refine start_ (n := 14) (S := fun w' => w'.cell? ⟨gb356, 0, none⟩ = some (.int .i64 t342) ∧ w'.cell? ⟨gb356, 1, none⟩ = some (.int .i64 t343) ∧ w'.cell? ⟨gb356, 2, none⟩ = some (.int .i64 t344) ∧ w'.cell? ⟨gb356, 3, none⟩ = some (.int .i64 t345) ∧ w'.cell? ⟨gb356, 4, none⟩ = some (.int .i64 t346)) (ds := []) #[false, false, false, false, false, false, false, false, false, false, false, false, false, false] (by kernel_rfl) rfl rfl ⟨zc BK356 0, zc BK356 1, zc BK356 2, zc BK356 3, zc BK356 4⟩ (fun hHeld => ?_); refine with_tabW laws_FnRead.tab19 laws_FnRead.bits19 (fun HT_ HW_ => ?_)
                         generalize wr.drew = w103 at BK356 BK357 BK376 HB hHeld ⊢
                         refine zp 0 163 (zm 14 1) HT_ ?_
                         refine zp 1 164 (zm 14 3) HT_ ?_
                         refine zp 2 165 (zm 14 7) HT_ ?_
                         refine zp 4 167 (zm 14 23) HT_ ?_
                         refine zp 10 173 (zm 14 1047) HT_ ?_
                         refine zt 5 168 (zm 14 1079) HT_ HW_ hHeld ?_
                         refine zp 6 169 (zm 14 1143) HT_ ?_
                         refine zt 11 174 (zm 14 3191) HT_ HW_ hHeld ?_
                         refine zo 3 (some 166) (zm 14 3199) HT_ (fun K hK => ?_)
                         refine zG Try.func16 #[.slice A1 l1.length c1, .int .i64 x11_5] ?_
                         with_reducible refine (laws_wByte.calls _ _ l1 x11_5 t384 _ ?side1 ?side2 A89.out).mono ?_
                         (case side1 => repeat (first | exact (Kd.C_below HR1.out HB.out) | (with_reducible refine Kd.C_alloc ?_ _) | (with_reducible refine Kd.C_drewN ?_ _) | (with_reducible refine Kd.C_drew ?_)))
                         (case side2 => exact HC1.out)
                         rintro e w' ⟨rfl, ⟨nd, rfl⟩⟩
                         refine ⟨_, rfl, ?_⟩
                         refine hK.out _ _ ⟨zc BK356 0, zc BK356 1, zc BK356 2, zc BK356 3, zc BK356 4⟩ (fun hHeld => ?_)
                         clear hK K
                         refine zn 166 ?_
                         refine zp 7 170 (zm 14 3327) HT_ ?_
                         refine zp 8 171 (zm 14 3583) HT_ ?_
                         refine zp 9 172 (zm 14 4095) HT_ ?_
                         refine zp 12 175 (zm 14 8191) HT_ ?_
                         refine zp 13 12 (zm 14 16383) HT_ ?_
                         refine done_ (done_of HT_.out (by kernel_rfl)) ?_
                         have hnb104 := NB357_356.out
                         have hnc104 := NB356_357.out
                         have hnb105 := NB357_376.out
                         have hnc105 := NB376_357.out
                         obtain ⟨hcz106_0, hcz106_1, hcz106_2, hcz106_3, hcz106_4, hcz106_5, hfz106_0, hfz106_1, hfz106_2, hfz106_3, hfz106_4, hfz106_5⟩ := zs6 BK357
                         have hnb107 := NB356_376.out
                         have hnc107 := NB376_356.out
                         obtain ⟨hcz108_0, hcz108_1, hcz108_2, hcz108_3, hcz108_4, hfz108_0, hfz108_1, hfz108_2, hfz108_3, hfz108_4⟩ := zs5 BK356
                         obtain ⟨hcz109_0, hcz109_1, hcz109_2, hcz109_3, hcz109_4, hcz109_5, hfz109_0, hfz109_1, hfz109_2, hfz109_3, hfz109_4, hfz109_5⟩ := zs6 BK376
                         try go_wp2
                         refine Handed.intro k5 ?measure ?_
                         rotate_left
                         go_step
                         refine meetU ?rel (by kernel_rfl) (by kernel_rfl)
                         case measure => have := HJ2.out; have := HJ21.out; have := HJ40.out; have := HJ64.out; have := HK5.out; omega
                         case rel => exact ⟨(wrap64 (x11_5 + 1)), ze, H', ⟨by have := HJ2.out; have := HJ21.out; have := HJ40.out; have := HJ64.out; have := HK5.out; omega⟩, ⟨zy BK356⟩, ⟨zy BK357⟩, ⟨zy BK376⟩, ⟨by repeat (first | (with_reducible first | exact HB.out | apply below_alloc | apply pw_below_drewN | apply below_drew1 | refine below_set ?_ GE356.out | refine below_set ?_ GE357.out | refine below_set ?_ GE376.out) | exact HB.out)⟩⟩
                      ·rw [if_neg c92] at H
                       have c92b0 : decide ((wrap64 (((rd_T37 t347 (ji18)).f1) - t344)) ≤ (wrap64 ((wrap64 (((rd_T37 t347 (ji18)).f1) + (wrap64 (Int.tdiv (wrap64 (t384 * (wrap64 (t344 + 1)))) 100)))) - t344))) = false := decide_eq_false c92
                       clear c92
                       by_cases c110 : (wrap64 ((wrap64 (((rd_T37 t347 (ji18)).f1) + (wrap64 (Int.tdiv (wrap64 (t384 * (wrap64 (t344 + 1)))) 100)))) - t344)) ≥ t371
                       ·rw [if_pos c110] at H
                        have c110b0 : decide (t371 ≤ (wrap64 ((wrap64 (((rd_T37 t347 (ji18)).f1) + (wrap64 (Int.tdiv (wrap64 (t384 * (wrap64 (t344 + 1)))) 100)))) - t344))) = true := decide_eq_true c110
                        clear c110
                        by_cases c111 : (false != (decide ((wrap64 ((wrap64 (((rd_T37 t347 (ji18)).f1) + (wrap64 (Int.tdiv (wrap64 (t384 * (wrap64 (t344 + 1)))) 100)))) - t344)) ≤ t372))) = true
                        ·rw [if_pos c111] at H
                         have c111b0 : (false != (decide ((wrap64 ((wrap64 (((rd_T37 t347 (ji18)).f1) + (wrap64 (Int.tdiv (wrap64 (t384 * (wrap64 (t344 + 1)))) 100)))) - t344)) ≤ t372))) = true := c111
                         (try (have c111b1 : decide (false = (decide ((wrap64 ((wrap64 (((rd_T37 t347 (ji18)).f1) + (wrap64 (Int.tdiv (wrap64 (t384 * (wrap64 (t344 + 1)))) 100)))) - t344)) ≤ t372))) = false := by simpa using c111))
                         (try (have c111b2 : (false == (decide ((wrap64 ((wrap64 (((rd_T37 t347 (ji18)).f1) + (wrap64 (Int.tdiv (wrap64 (t384 * (wrap64 (t344 + 1)))) 100)))) - t344)) ≤ t372))) = false := by simpa using c111))
                         (try (have c111b3 : ¬ (false = (decide ((wrap64 ((wrap64 (((rd_T37 t347 (ji18)).f1) + (wrap64 (Int.tdiv (wrap64 (t384 * (wrap64 (t344 + 1)))) 100)))) - t344)) ≤ t372))) := by simpa using c111))
                         clear c111
                         exact absurd ((Option.some.inj H).trans HT.out) (by decide)
                        ·rw [if_neg c111] at H
                         have c111b0 : (false != (decide ((wrap64 ((wrap64 (((rd_T37 t347 (ji18)).f1) + (wrap64 (Int.tdiv (wrap64 (t384 * (wrap64 (t344 + 1)))) 100)))) - t344)) ≤ t372))) = false := by simpa using c111
                         (try (have c111b1 : decide (false = (decide ((wrap64 ((wrap64 (((rd_T37 t347 (ji18)).f1) + (wrap64 (Int.tdiv (wrap64 (t384 * (wrap64 (t344 + 1)))) 100)))) - t344)) ≤ t372))) = true := by simpa using c111))
                         (try (have c111b2 : (false == (decide ((wrap64 ((wrap64 (((rd_T37 t347 (ji18)).f1) + (wrap64 (Int.tdiv (wrap64 (t384 * (wrap64 (t344 + 1)))) 100)))) - t344)) ≤ t372))) = true := by simpa using c111))
                         clear c111
                         have H' := Aside0.mk H
                         clear H
                         try go_wp2
                         have n0_ := Aside0.mk (blk_drew BK356.out)
                         have n1_ := Aside0.mk (blk_drew BK357.out)
                         have n2_ := Aside0.mk (blk_drew BK376.out)
                         have n3_ := Aside0.mk (below_drew1 HB.out)
                         clear BK356 BK357 BK376 HB
                         have BK356 := n0_
                         have BK357 := n1_
                         have BK376 := n2_
                         have HB := n3_
                         clear n0_ n1_ n2_ n3_
                         refine start_ (n := 14) (S := fun w' => w'.cell? ⟨gb356, 0, none⟩ = some (.int .i64 t342) ∧ w'.cell? ⟨gb356, 1, none⟩ = some (.int .i64 t343) ∧ w'.cell? ⟨gb356, 2, none⟩ = some (.int .i64 t344) ∧ w'.cell? ⟨gb356, 3, none⟩ = some (.int .i64 t345) ∧ w'.cell? ⟨gb356, 4, none⟩ = some (.int .i64 t346)) (ds := []) #[false, false, false, false, false, false, false, false, false, false, false, false, false, false] (by kernel_rfl) rfl rfl ⟨zc BK356 0, zc BK356 1, zc BK356 2, zc BK356 3, zc BK356 4⟩ (fun hHeld => ?_); refine with_tabW laws_FnRead.tab19 laws_FnRead.bits19 (fun HT_ HW_ => ?_)
                         generalize wr.drew = w112 at BK356 BK357 BK376 HB hHeld ⊢
                         refine zp 0 163 (zm 14 1) HT_ ?_
                         refine zp 1 164 (zm 14 3) HT_ ?_
                         refine zp 2 165 (zm 14 7) HT_ ?_
                         refine zp 4 167 (zm 14 23) HT_ ?_
                         refine zp 10 173 (zm 14 1047) HT_ ?_
                         refine zt 5 168 (zm 14 1079) HT_ HW_ hHeld ?_
                         refine zp 6 169 (zm 14 1143) HT_ ?_
                         refine zt 11 174 (zm 14 3191) HT_ HW_ hHeld ?_
                         refine zo 3 (some 166) (zm 14 3199) HT_ (fun K hK => ?_)
                         refine zG Try.func16 #[.slice A1 l1.length c1, .int .i64 x11_5] ?_
                         with_reducible refine (laws_wByte.calls _ _ l1 x11_5 t384 _ ?side1 ?side2 A89.out).mono ?_
                         (case side1 => repeat (first | exact (Kd.C_below HR1.out HB.out) | (with_reducible refine Kd.C_alloc ?_ _) | (with_reducible refine Kd.C_drewN ?_ _) | (with_reducible refine Kd.C_drew ?_)))
                         (case side2 => exact HC1.out)
                         rintro e w' ⟨rfl, ⟨nd, rfl⟩⟩
                         refine ⟨_, rfl, ?_⟩
                         refine hK.out _ _ ⟨zc BK356 0, zc BK356 1, zc BK356 2, zc BK356 3, zc BK356 4⟩ (fun hHeld => ?_)
                         clear hK K
                         refine zn 166 ?_
                         refine zp 7 170 (zm 14 3327) HT_ ?_
                         refine zp 8 171 (zm 14 3583) HT_ ?_
                         refine zp 9 172 (zm 14 4095) HT_ ?_
                         refine zp 12 175 (zm 14 8191) HT_ ?_
                         refine zp 13 12 (zm 14 16383) HT_ ?_
                         refine done_ (done_of HT_.out (by kernel_rfl)) ?_
                         have hnb113 := NB357_356.out
                         have hnc113 := NB356_357.out
                         have hnb114 := NB357_376.out
                         have hnc114 := NB376_357.out
                         obtain ⟨hcz115_0, hcz115_1, hcz115_2, hcz115_3, hcz115_4, hcz115_5, hfz115_0, hfz115_1, hfz115_2, hfz115_3, hfz115_4, hfz115_5⟩ := zs6 BK357
                         have hnb116 := NB356_376.out
                         have hnc116 := NB376_356.out
                         obtain ⟨hcz117_0, hcz117_1, hcz117_2, hcz117_3, hcz117_4, hfz117_0, hfz117_1, hfz117_2, hfz117_3, hfz117_4⟩ := zs5 BK356
                         obtain ⟨hcz118_0, hcz118_1, hcz118_2, hcz118_3, hcz118_4, hcz118_5, hfz118_0, hfz118_1, hfz118_2, hfz118_3, hfz118_4, hfz118_5⟩ := zs6 BK376
                         try go_wp2
                         refine Handed.intro k5 ?measure ?_
                         rotate_left
                         go_step
                         refine meetU ?rel (by kernel_rfl) (by kernel_rfl)
                         case measure => have := HJ2.out; have := HJ21.out; have := HJ40.out; have := HJ64.out; have := HK5.out; omega
                         case rel => exact ⟨(wrap64 (x11_5 + 1)), ze, H', ⟨by have := HJ2.out; have := HJ21.out; have := HJ40.out; have := HJ64.out; have := HK5.out; omega⟩, ⟨zy BK356⟩, ⟨zy BK357⟩, ⟨zy BK376⟩, ⟨by repeat (first | (with_reducible first | exact HB.out | apply below_alloc | apply pw_below_drewN | apply below_drew1 | refine below_set ?_ GE356.out | refine below_set ?_ GE357.out | refine below_set ?_ GE376.out) | exact HB.out)⟩⟩
                       ·rw [if_neg c110] at H
                        have c110b0 : decide (t371 ≤ (wrap64 ((wrap64 (((rd_T37 t347 (ji18)).f1) + (wrap64 (Int.tdiv (wrap64 (t384 * (wrap64 (t344 + 1)))) 100)))) - t344))) = false := decide_eq_false c110
                        clear c110
                        by_cases c119 : (false != false) = true
                        ·rw [if_pos c119] at H
                         have c119b0 : (false != false) = true := c119
                         (try (have c119b1 : decide (false = false) = false := by first | (simp; done) | (simp at c119; done)))
                         (try (have c119b2 : (false == false) = false := by first | (simp; done) | (simp at c119; done)))
                         (try (have c119b3 : ¬ (false = false) := by first | (simp; done) | (simp at c119; done)))
                         clear c119
                         exact absurd ((Option.some.inj H).trans HT.out) (by decide)
                        ·rw [if_neg c119] at H
                         have c119b0 : (false != false) = false := by first | (simp; done) | (simp at c119; done)
                         (try (have c119b1 : decide (false = false) = true := by first | (simp; done) | (simp at c119; done)))
                         (try (have c119b2 : (false == false) = true := by first | (simp; done) | (simp at c119; done)))
                         clear c119
                         have H' := Aside0.mk H
                         clear H
                         try go_wp2
                         have n0_ := Aside0.mk (blk_drew BK356.out)
                         have n1_ := Aside0.mk (blk_drew BK357.out)
                         have n2_ := Aside0.mk (blk_drew BK376.out)
                         have n3_ := Aside0.mk (below_drew1 HB.out)
                         clear BK356 BK357 BK376 HB
                         have BK356 := n0_
                         have BK357 := n1_
                         have BK376 := n2_
                         have HB := n3_
                         clear n0_ n1_ n2_ n3_
                         refine start_ (n := 14) (S := fun w' => w'.cell? ⟨gb356, 0, none⟩ = some (.int .i64 t342) ∧ w'.cell? ⟨gb356, 1, none⟩ = some (.int .i64 t343) ∧ w'.cell? ⟨gb356, 2, none⟩ = some (.int .i64 t344) ∧ w'.cell? ⟨gb356, 3, none⟩ = some (.int .i64 t345) ∧ w'.cell? ⟨gb356, 4, none⟩ = some (.int .i64 t346)) (ds := []) #[false, false, false, false, false, false, false, false, false, false, false, false, false, false] (by kernel_rfl) rfl rfl ⟨zc BK356 0, zc BK356 1, zc BK356 2, zc BK356 3, zc BK356 4⟩ (fun hHeld => ?_); refine with_tabW laws_FnRead.tab19 laws_FnRead.bits19 (fun HT_ HW_ => ?_)
                         generalize wr.drew = w120 at BK356 BK357 BK376 HB hHeld ⊢
                         refine zp 0 163 (zm 14 1) HT_ ?_
                         refine zp 1 164 (zm 14 3) HT_ ?_
                         refine zp 2 165 (zm 14 7) HT_ ?_
                         refine zp 4 167 (zm 14 23) HT_ ?_
                         refine zp 10 173 (zm 14 1047) HT_ ?_
                         refine zt 5 168 (zm 14 1079) HT_ HW_ hHeld ?_
                         refine zp 6 169 (zm 14 1143) HT_ ?_
                         refine zt 11 174 (zm 14 3191) HT_ HW_ hHeld ?_
                         refine zo 3 (some 166) (zm 14 3199) HT_ (fun K hK => ?_)
                         refine zG Try.func16 #[.slice A1 l1.length c1, .int .i64 x11_5] ?_
                         with_reducible refine (laws_wByte.calls _ _ l1 x11_5 t384 _ ?side1 ?side2 A89.out).mono ?_
                         (case side1 => repeat (first | exact (Kd.C_below HR1.out HB.out) | (with_reducible refine Kd.C_alloc ?_ _) | (with_reducible refine Kd.C_drewN ?_ _) | (with_reducible refine Kd.C_drew ?_)))
                         (case side2 => exact HC1.out)
                         rintro e w' ⟨rfl, ⟨nd, rfl⟩⟩
                         refine ⟨_, rfl, ?_⟩
                         refine hK.out _ _ ⟨zc BK356 0, zc BK356 1, zc BK356 2, zc BK356 3, zc BK356 4⟩ (fun hHeld => ?_)
                         clear hK K
                         refine zn 166 ?_
                         refine zp 7 170 (zm 14 3327) HT_ ?_
                         refine zp 8 171 (zm 14 3583) HT_ ?_
                         refine zp 9 172 (zm 14 4095) HT_ ?_
                         refine zp 12 175 (zm 14 8191) HT_ ?_
                         refine zp 13 12 (zm 14 16383) HT_ ?_
                         refine done_ (done_of HT_.out (by kernel_rfl)) ?_
                         have hnb121 := NB357_356.out
                         have hnc121 := NB356_357.out
                         have hnb122 := NB357_376.out
                         have hnc122 := NB376_357.out
                         obtain ⟨hcz123_0, hcz123_1, hcz123_2, hcz123_3, hcz123_4, hcz123_5, hfz123_0, hfz123_1, hfz123_2, hfz123_3, hfz123_4, hfz123_5⟩ := zs6 BK357
                         have hnb124 := NB356_376.out
                         have hnc124 := NB376_356.out
                         obtain ⟨hcz125_0, hcz125_1, hcz125_2, hcz125_3, hcz125_4, hfz125_0, hfz125_1, hfz125_2, hfz125_3, hfz125_4⟩ := zs5 BK356
                         obtain ⟨hcz126_0, hcz126_1, hcz126_2, hcz126_3, hcz126_4, hcz126_5, hfz126_0, hfz126_1, hfz126_2, hfz126_3, hfz126_4, hfz126_5⟩ := zs6 BK376
                         try go_wp2
                         refine Handed.intro k5 ?measure ?_
                         rotate_left
                         go_step
                         refine meetU ?rel (by kernel_rfl) (by kernel_rfl)
                         case measure => have := HJ2.out; have := HJ21.out; have := HJ40.out; have := HJ64.out; have := HK5.out; omega
                         case rel => exact ⟨(wrap64 (x11_5 + 1)), ze, H', ⟨by have := HJ2.out; have := HJ21.out; have := HJ40.out; have := HJ64.out; have := HK5.out; omega⟩, ⟨zy BK356⟩, ⟨zy BK357⟩, ⟨zy BK376⟩, ⟨by repeat (first | (with_reducible first | exact HB.out | apply below_alloc | apply pw_below_drewN | apply below_drew1 | refine below_set ?_ GE356.out | refine below_set ?_ GE357.out | refine below_set ?_ GE376.out) | exact HB.out)⟩⟩
                     ·rw [if_neg c91] at H
                      have c91b0 : decide ((wrap64 ((wrap64 (((rd_T37 t347 (ji18)).f1) + (wrap64 (Int.tdiv (wrap64 (t384 * (wrap64 (t344 + 1)))) 100)))) - t344)) ≤ x358002_21) = false := decide_eq_false c91
                      clear c91
                      by_cases c127 : (wrap64 ((wrap64 (((rd_T37 t347 (ji18)).f1) + (wrap64 (Int.tdiv (wrap64 (t384 * (wrap64 (t344 + 1)))) 100)))) - t344)) ≥ t371
                      ·rw [if_pos c127] at H
                       have c127b0 : decide (t371 ≤ (wrap64 ((wrap64 (((rd_T37 t347 (ji18)).f1) + (wrap64 (Int.tdiv (wrap64 (t384 * (wrap64 (t344 + 1)))) 100)))) - t344))) = true := decide_eq_true c127
                       clear c127
                       by_cases c128 : (false != (decide ((wrap64 ((wrap64 (((rd_T37 t347 (ji18)).f1) + (wrap64 (Int.tdiv (wrap64 (t384 * (wrap64 (t344 + 1)))) 100)))) - t344)) ≤ t372))) = true
                       ·rw [if_pos c128] at H
                        have c128b0 : (false != (decide ((wrap64 ((wrap64 (((rd_T37 t347 (ji18)).f1) + (wrap64 (Int.tdiv (wrap64 (t384 * (wrap64 (t344 + 1)))) 100)))) - t344)) ≤ t372))) = true := c128
                        (try (have c128b1 : decide (false = (decide ((wrap64 ((wrap64 (((rd_T37 t347 (ji18)).f1) + (wrap64 (Int.tdiv (wrap64 (t384 * (wrap64 (t344 + 1)))) 100)))) - t344)) ≤ t372))) = false := by simpa using c128))
                        (try (have c128b2 : (false == (decide ((wrap64 ((wrap64 (((rd_T37 t347 (ji18)).f1) + (wrap64 (Int.tdiv (wrap64 (t384 * (wrap64 (t344 + 1)))) 100)))) - t344)) ≤ t372))) = false := by simpa using c128))
                        (try (have c128b3 : ¬ (false = (decide ((wrap64 ((wrap64 (((rd_T37 t347 (ji18)).f1) + (wrap64 (Int.tdiv (wrap64 (t384 * (wrap64 (t344 + 1)))) 100)))) - t344)) ≤ t372))) := by simpa using c128))
                        clear c128
                        exact absurd ((Option.some.inj H).trans HT.out) (by decide)
                       ·rw [if_neg c128] at H
                        have c128b0 : (false != (decide ((wrap64 ((wrap64 (((rd_T37 t347 (ji18)).f1) + (wrap64 (Int.tdiv (wrap64 (t384 * (wrap64 (t344 + 1)))) 100)))) - t344)) ≤ t372))) = false := by simpa using c128
                        (try (have c128b1 : decide (false = (decide ((wrap64 ((wrap64 (((rd_T37 t347 (ji18)).f1) + (wrap64 (Int.tdiv (wrap64 (t384 * (wrap64 (t344 + 1)))) 100)))) - t344)) ≤ t372))) = true := by simpa using c128))
                        (try (have c128b2 : (false == (decide ((wrap64 ((wrap64 (((rd_T37 t347 (ji18)).f1) + (wrap64 (Int.tdiv (wrap64 (t384 * (wrap64 (t344 + 1)))) 100)))) - t344)) ≤ t372))) = true := by simpa using c128))
                        clear c128
                        have H' := Aside0.mk H
                        clear H
                        try go_wp2
                        have n0_ := Aside0.mk (blk_drew BK356.out)
                        have n1_ := Aside0.mk (blk_drew BK357.out)
                        have n2_ := Aside0.mk (blk_drew BK376.out)
                        have n3_ := Aside0.mk (below_drew1 HB.out)
                        clear BK356 BK357 BK376 HB
                        have BK356 := n0_
                        have BK357 := n1_
                        have BK376 := n2_
                        have HB := n3_
                        clear n0_ n1_ n2_ n3_
                        refine start_ (n := 14) (S := fun w' => w'.cell? ⟨gb356, 0, none⟩ = some (.int .i64 t342) ∧ w'.cell? ⟨gb356, 1, none⟩ = some (.int .i64 t343) ∧ w'.cell? ⟨gb356, 2, none⟩ = some (.int .i64 t344) ∧ w'.cell? ⟨gb356, 3, none⟩ = some (.int .i64 t345) ∧ w'.cell? ⟨gb356, 4, none⟩ = some (.int .i64 t346)) (ds := []) #[false, false, false, false, false, false, false, false, false, false, false, false, false, false] (by kernel_rfl) rfl rfl ⟨zc BK356 0, zc BK356 1, zc BK356 2, zc BK356 3, zc BK356 4⟩ (fun hHeld => ?_); refine with_tabW laws_FnRead.tab19 laws_FnRead.bits19 (fun HT_ HW_ => ?_)
                        generalize wr.drew = w129 at BK356 BK357 BK376 HB hHeld ⊢
                        refine zp 0 163 (zm 14 1) HT_ ?_
                        refine zp 1 164 (zm 14 3) HT_ ?_
                        refine zp 2 165 (zm 14 7) HT_ ?_
                        refine zp 4 167 (zm 14 23) HT_ ?_
                        refine zp 10 173 (zm 14 1047) HT_ ?_
                        refine zt 5 168 (zm 14 1079) HT_ HW_ hHeld ?_
                        refine zp 6 169 (zm 14 1143) HT_ ?_
                        refine zt 11 174 (zm 14 3191) HT_ HW_ hHeld ?_
                        refine zo 3 (some 166) (zm 14 3199) HT_ (fun K hK => ?_)
                        refine zG Try.func16 #[.slice A1 l1.length c1, .int .i64 x11_5] ?_
                        with_reducible refine (laws_wByte.calls _ _ l1 x11_5 t384 _ ?side1 ?side2 A89.out).mono ?_
                        (case side1 => repeat (first | exact (Kd.C_below HR1.out HB.out) | (with_reducible refine Kd.C_alloc ?_ _) | (with_reducible refine Kd.C_drewN ?_ _) | (with_reducible refine Kd.C_drew ?_)))
                        (case side2 => exact HC1.out)
                        rintro e w' ⟨rfl, ⟨nd, rfl⟩⟩
                        refine ⟨_, rfl, ?_⟩
                        refine hK.out _ _ ⟨zc BK356 0, zc BK356 1, zc BK356 2, zc BK356 3, zc BK356 4⟩ (fun hHeld => ?_)
                        clear hK K
                        refine zn 166 ?_
                        refine zp 7 170 (zm 14 3327) HT_ ?_
                        refine zp 8 171 (zm 14 3583) HT_ ?_
                        refine zp 9 172 (zm 14 4095) HT_ ?_
                        refine zp 12 175 (zm 14 8191) HT_ ?_
                        refine zp 13 12 (zm 14 16383) HT_ ?_
                        refine done_ (done_of HT_.out (by kernel_rfl)) ?_
                        have hnb130 := NB357_356.out
                        have hnc130 := NB356_357.out
                        have hnb131 := NB357_376.out
                        have hnc131 := NB376_357.out
                        obtain ⟨hcz132_0, hcz132_1, hcz132_2, hcz132_3, hcz132_4, hcz132_5, hfz132_0, hfz132_1, hfz132_2, hfz132_3, hfz132_4, hfz132_5⟩ := zs6 BK357
                        have hnb133 := NB376_356.out
                        have hnc133 := NB356_376.out
                        obtain ⟨hcz134_0, hcz134_1, hcz134_2, hcz134_3, hcz134_4, hcz134_5, hfz134_0, hfz134_1, hfz134_2, hfz134_3, hfz134_4, hfz134_5⟩ := zs6 BK376
                        try go_wp2
                        refine Handed.intro k5 ?measure ?_
                        rotate_left
                        go_step
                        refine meetU ?rel (by kernel_rfl) (by kernel_rfl)
                        case measure => have := HJ2.out; have := HJ21.out; have := HJ40.out; have := HJ64.out; have := HK5.out; omega
                        case rel => exact ⟨(wrap64 (x11_5 + 1)), ze, H', ⟨by have := HJ2.out; have := HJ21.out; have := HJ40.out; have := HJ64.out; have := HK5.out; omega⟩, ⟨zy BK356⟩, ⟨zy BK357⟩, ⟨zy BK376⟩, ⟨by repeat (first | (with_reducible first | exact HB.out | apply below_alloc | apply pw_below_drewN | apply below_drew1 | refine below_set ?_ GE356.out | refine below_set ?_ GE357.out | refine below_set ?_ GE376.out) | exact HB.out)⟩⟩
                      ·rw [if_neg c127] at H
                       have c127b0 : decide (t371 ≤ (wrap64 ((wrap64 (((rd_T37 t347 (ji18)).f1) + (wrap64 (Int.tdiv (wrap64 (t384 * (wrap64 (t344 + 1)))) 100)))) - t344))) = false := decide_eq_false c127
                       clear c127
                       by_cases c135 : (false != false) = true
                       ·rw [if_pos c135] at H
                        have c135b0 : (false != false) = true := c135
                        (try (have c135b1 : decide (false = false) = false := by first | (simp; done) | (simp at c135; done)))
                        (try (have c135b2 : (false == false) = false := by first | (simp; done) | (simp at c135; done)))
                        (try (have c135b3 : ¬ (false = false) := by first | (simp; done) | (simp at c135; done)))
                        clear c135
                        exact absurd ((Option.some.inj H).trans HT.out) (by decide)
                       ·rw [if_neg c135] at H
                        have c135b0 : (false != false) = false := by first | (simp; done) | (simp at c135; done)
                        (try (have c135b1 : decide (false = false) = true := by first | (simp; done) | (simp at c135; done)))
                        (try (have c135b2 : (false == false) = true := by first | (simp; done) | (simp at c135; done)))
                        clear c135
                        have H' := Aside0.mk H
                        clear H
                        try go_wp2
                        have n0_ := Aside0.mk (blk_drew BK356.out)
                        have n1_ := Aside0.mk (blk_drew BK357.out)
                        have n2_ := Aside0.mk (blk_drew BK376.out)
                        have n3_ := Aside0.mk (below_drew1 HB.out)
                        clear BK356 BK357 BK376 HB
                        have BK356 := n0_
                        have BK357 := n1_
                        have BK376 := n2_
                        have HB := n3_
                        clear n0_ n1_ n2_ n3_
                        refine start_ (n := 14) (S := fun w' => w'.cell? ⟨gb356, 0, none⟩ = some (.int .i64 t342) ∧ w'.cell? ⟨gb356, 1, none⟩ = some (.int .i64 t343) ∧ w'.cell? ⟨gb356, 2, none⟩ = some (.int .i64 t344) ∧ w'.cell? ⟨gb356, 3, none⟩ = some (.int .i64 t345) ∧ w'.cell? ⟨gb356, 4, none⟩ = some (.int .i64 t346)) (ds := []) #[false, false, false, false, false, false, false, false, false, false, false, false, false, false] (by kernel_rfl) rfl rfl ⟨zc BK356 0, zc BK356 1, zc BK356 2, zc BK356 3, zc BK356 4⟩ (fun hHeld => ?_); refine with_tabW laws_FnRead.tab19 laws_FnRead.bits19 (fun HT_ HW_ => ?_)
                        generalize wr.drew = w136 at BK356 BK357 BK376 HB hHeld ⊢
                        refine zp 0 163 (zm 14 1) HT_ ?_
                        refine zp 1 164 (zm 14 3) HT_ ?_
                        refine zp 2 165 (zm 14 7) HT_ ?_
                        refine zp 4 167 (zm 14 23) HT_ ?_
                        refine zp 10 173 (zm 14 1047) HT_ ?_
                        refine zt 5 168 (zm 14 1079) HT_ HW_ hHeld ?_
                        refine zp 6 169 (zm 14 1143) HT_ ?_
                        refine zt 11 174 (zm 14 3191) HT_ HW_ hHeld ?_
                        refine zo 3 (some 166) (zm 14 3199) HT_ (fun K hK => ?_)
                        refine zG Try.func16 #[.slice A1 l1.length c1, .int .i64 x11_5] ?_
                        with_reducible refine (laws_wByte.calls _ _ l1 x11_5 t384 _ ?side1 ?side2 A89.out).mono ?_
                        (case side1 => repeat (first | exact (Kd.C_below HR1.out HB.out) | (with_reducible refine Kd.C_alloc ?_ _) | (with_reducible refine Kd.C_drewN ?_ _) | (with_reducible refine Kd.C_drew ?_)))
                        (case side2 => exact HC1.out)
                        rintro e w' ⟨rfl, ⟨nd, rfl⟩⟩
                        refine ⟨_, rfl, ?_⟩
                        refine hK.out _ _ ⟨zc BK356 0, zc BK356 1, zc BK356 2, zc BK356 3, zc BK356 4⟩ (fun hHeld => ?_)
                        clear hK K
                        refine zn 166 ?_
                        refine zp 7 170 (zm 14 3327) HT_ ?_
                        refine zp 8 171 (zm 14 3583) HT_ ?_
                        refine zp 9 172 (zm 14 4095) HT_ ?_
                        refine zp 12 175 (zm 14 8191) HT_ ?_
                        refine zp 13 12 (zm 14 16383) HT_ ?_
                        refine done_ (done_of HT_.out (by kernel_rfl)) ?_
                        have hnb137 := NB357_356.out
                        have hnc137 := NB356_357.out
                        have hnb138 := NB357_376.out
                        have hnc138 := NB376_357.out
                        obtain ⟨hcz139_0, hcz139_1, hcz139_2, hcz139_3, hcz139_4, hcz139_5, hfz139_0, hfz139_1, hfz139_2, hfz139_3, hfz139_4, hfz139_5⟩ := zs6 BK357
                        have hnb140 := NB376_356.out
                        have hnc140 := NB356_376.out
                        obtain ⟨hcz141_0, hcz141_1, hcz141_2, hcz141_3, hcz141_4, hcz141_5, hfz141_0, hfz141_1, hfz141_2, hfz141_3, hfz141_4, hfz141_5⟩ := zs6 BK376
                        try go_wp2
                        refine Handed.intro k5 ?measure ?_
                        rotate_left
                        go_step
                        refine meetU ?rel (by kernel_rfl) (by kernel_rfl)
                        case measure => have := HJ2.out; have := HJ21.out; have := HJ40.out; have := HJ64.out; have := HK5.out; omega
                        case rel => exact ⟨(wrap64 (x11_5 + 1)), ze, H', ⟨by have := HJ2.out; have := HJ21.out; have := HJ40.out; have := HJ64.out; have := HK5.out; omega⟩, ⟨zy BK356⟩, ⟨zy BK357⟩, ⟨zy BK376⟩, ⟨by repeat (first | (with_reducible first | exact HB.out | apply below_alloc | apply pw_below_drewN | apply below_drew1 | refine below_set ?_ GE356.out | refine below_set ?_ GE357.out | refine below_set ?_ GE376.out) | exact HB.out)⟩⟩
                    ·rw [if_neg c90] at H
                     have c90b0 : decide (x358001_21 ≤ (wrap64 ((wrap64 (((rd_T37 t347 (ji18)).f1) + (wrap64 (Int.tdiv (wrap64 (t384 * (wrap64 (t344 + 1)))) 100)))) - t344))) = false := decide_eq_false c90
                     clear c90
                     by_cases c142 : (wrap64 ((wrap64 (((rd_T37 t347 (ji18)).f1) + (wrap64 (Int.tdiv (wrap64 (t384 * (wrap64 (t344 + 1)))) 100)))) - t344)) ≥ t371
                     ·rw [if_pos c142] at H
                      have c142b0 : decide (t371 ≤ (wrap64 ((wrap64 (((rd_T37 t347 (ji18)).f1) + (wrap64 (Int.tdiv (wrap64 (t384 * (wrap64 (t344 + 1)))) 100)))) - t344))) = true := decide_eq_true c142
                      clear c142
                      by_cases c143 : (false != (decide ((wrap64 ((wrap64 (((rd_T37 t347 (ji18)).f1) + (wrap64 (Int.tdiv (wrap64 (t384 * (wrap64 (t344 + 1)))) 100)))) - t344)) ≤ t372))) = true
                      ·rw [if_pos c143] at H
                       have c143b0 : (false != (decide ((wrap64 ((wrap64 (((rd_T37 t347 (ji18)).f1) + (wrap64 (Int.tdiv (wrap64 (t384 * (wrap64 (t344 + 1)))) 100)))) - t344)) ≤ t372))) = true := c143
                       (try (have c143b1 : decide (false = (decide ((wrap64 ((wrap64 (((rd_T37 t347 (ji18)).f1) + (wrap64 (Int.tdiv (wrap64 (t384 * (wrap64 (t344 + 1)))) 100)))) - t344)) ≤ t372))) = false := by simpa using c143))
                       (try (have c143b2 : (false == (decide ((wrap64 ((wrap64 (((rd_T37 t347 (ji18)).f1) + (wrap64 (Int.tdiv (wrap64 (t384 * (wrap64 (t344 + 1)))) 100)))) - t344)) ≤ t372))) = false := by simpa using c143))
                       (try (have c143b3 : ¬ (false = (decide ((wrap64 ((wrap64 (((rd_T37 t347 (ji18)).f1) + (wrap64 (Int.tdiv (wrap64 (t384 * (wrap64 (t344 + 1)))) 100)))) - t344)) ≤ t372))) := by simpa using c143))
                       clear c143
                       exact absurd ((Option.some.inj H).trans HT.out) (by decide)
                      ·rw [if_neg c143] at H
                       have c143b0 : (false != (decide ((wrap64 ((wrap64 (((rd_T37 t347 (ji18)).f1) + (wrap64 (Int.tdiv (wrap64 (t384 * (wrap64 (t344 + 1)))) 100)))) - t344)) ≤ t372))) = false := by simpa using c143
                       (try (have c143b1 : decide (false = (decide ((wrap64 ((wrap64 (((rd_T37 t347 (ji18)).f1) + (wrap64 (Int.tdiv (wrap64 (t384 * (wrap64 (t344 + 1)))) 100)))) - t344)) ≤ t372))) = true := by simpa using c143))
                       (try (have c143b2 : (false == (decide ((wrap64 ((wrap64 (((rd_T37 t347 (ji18)).f1) + (wrap64 (Int.tdiv (wrap64 (t384 * (wrap64 (t344 + 1)))) 100)))) - t344)) ≤ t372))) = true := by simpa using c143))
                       clear c143
                       have H' := Aside0.mk H
                       clear H
                       try go_wp2
                       have n0_ := Aside0.mk (blk_drew BK356.out)
                       have n1_ := Aside0.mk (blk_drew BK357.out)
                       have n2_ := Aside0.mk (blk_drew BK376.out)
                       have n3_ := Aside0.mk (below_drew1 HB.out)
                       clear BK356 BK357 BK376 HB
                       have BK356 := n0_
                       have BK357 := n1_
                       have BK376 := n2_
                       have HB := n3_
                       clear n0_ n1_ n2_ n3_
                       refine start_ (n := 14) (S := fun w' => w'.cell? ⟨gb356, 0, none⟩ = some (.int .i64 t342) ∧ w'.cell? ⟨gb356, 1, none⟩ = some (.int .i64 t343) ∧ w'.cell? ⟨gb356, 2, none⟩ = some (.int .i64 t344) ∧ w'.cell? ⟨gb356, 3, none⟩ = some (.int .i64 t345) ∧ w'.cell? ⟨gb356, 4, none⟩ = some (.int .i64 t346)) (ds := []) #[false, false, false, false, false, false, false, false, false, false, false, false, false, false] (by kernel_rfl) rfl rfl ⟨zc BK356 0, zc BK356 1, zc BK356 2, zc BK356 3, zc BK356 4⟩ (fun hHeld => ?_); refine with_tabW laws_FnRead.tab19 laws_FnRead.bits19 (fun HT_ HW_ => ?_)
                       generalize wr.drew = w144 at BK356 BK357 BK376 HB hHeld ⊢
                       refine zp 0 163 (zm 14 1) HT_ ?_
                       refine zp 1 164 (zm 14 3) HT_ ?_
                       refine zp 2 165 (zm 14 7) HT_ ?_
                       refine zp 4 167 (zm 14 23) HT_ ?_
                       refine zp 10 173 (zm 14 1047) HT_ ?_
                       refine zt 5 168 (zm 14 1079) HT_ HW_ hHeld ?_
                       refine zp 6 169 (zm 14 1143) HT_ ?_
                       refine zt 11 174 (zm 14 3191) HT_ HW_ hHeld ?_
                       refine zo 3 (some 166) (zm 14 3199) HT_ (fun K hK => ?_)
                       refine zG Try.func16 #[.slice A1 l1.length c1, .int .i64 x11_5] ?_
                       with_reducible refine (laws_wByte.calls _ _ l1 x11_5 t384 _ ?side1 ?side2 A89.out).mono ?_
                       (case side1 => repeat (first | exact (Kd.C_below HR1.out HB.out) | (with_reducible refine Kd.C_alloc ?_ _) | (with_reducible refine Kd.C_drewN ?_ _) | (with_reducible refine Kd.C_drew ?_)))
                       (case side2 => exact HC1.out)
                       rintro e w' ⟨rfl, ⟨nd, rfl⟩⟩
                       refine ⟨_, rfl, ?_⟩
                       refine hK.out _ _ ⟨zc BK356 0, zc BK356 1, zc BK356 2, zc BK356 3, zc BK356 4⟩ (fun hHeld => ?_)
                       clear hK K
                       refine zn 166 ?_
                       refine zp 7 170 (zm 14 3327) HT_ ?_
                       refine zp 8 171 (zm 14 3583) HT_ ?_
                       refine zp 9 172 (zm 14 4095) HT_ ?_
                       refine zp 12 175 (zm 14 8191) HT_ ?_
                       refine zp 13 12 (zm 14 16383) HT_ ?_
                       refine done_ (done_of HT_.out (by kernel_rfl)) ?_
                       have hnb145 := NB357_356.out
                       have hnc145 := NB356_357.out
                       have hnb146 := NB357_376.out
                       have hnc146 := NB376_357.out
                       obtain ⟨hcz147_0, hcz147_1, hcz147_2, hcz147_3, hcz147_4, hcz147_5, hfz147_0, hfz147_1, hfz147_2, hfz147_3, hfz147_4, hfz147_5⟩ := zs6 BK357
                       have hnb148 := NB376_356.out
                       have hnc148 := NB356_376.out
                       obtain ⟨hcz149_0, hcz149_1, hcz149_2, hcz149_3, hcz149_4, hcz149_5, hfz149_0, hfz149_1, hfz149_2, hfz149_3, hfz149_4, hfz149_5⟩ := zs6 BK376
                       try go_wp2
                       refine Handed.intro k5 ?measure ?_
                       rotate_left
                       go_step
                       refine meetU ?rel (by kernel_rfl) (by kernel_rfl)
                       case measure => have := HJ2.out; have := HJ21.out; have := HJ40.out; have := HJ64.out; have := HK5.out; omega
                       case rel => exact ⟨(wrap64 (x11_5 + 1)), ze, H', ⟨by have := HJ2.out; have := HJ21.out; have := HJ40.out; have := HJ64.out; have := HK5.out; omega⟩, ⟨zy BK356⟩, ⟨zy BK357⟩, ⟨zy BK376⟩, ⟨by repeat (first | (with_reducible first | exact HB.out | apply below_alloc | apply pw_below_drewN | apply below_drew1 | refine below_set ?_ GE356.out | refine below_set ?_ GE357.out | refine below_set ?_ GE376.out) | exact HB.out)⟩⟩
                     ·rw [if_neg c142] at H
                      have c142b0 : decide (t371 ≤ (wrap64 ((wrap64 (((rd_T37 t347 (ji18)).f1) + (wrap64 (Int.tdiv (wrap64 (t384 * (wrap64 (t344 + 1)))) 100)))) - t344))) = false := decide_eq_false c142
                      clear c142
                      by_cases c150 : (false != false) = true
                      ·rw [if_pos c150] at H
                       have c150b0 : (false != false) = true := c150
                       (try (have c150b1 : decide (false = false) = false := by first | (simp; done) | (simp at c150; done)))
                       (try (have c150b2 : (false == false) = false := by first | (simp; done) | (simp at c150; done)))
                       (try (have c150b3 : ¬ (false = false) := by first | (simp; done) | (simp at c150; done)))
                       clear c150
                       exact absurd ((Option.some.inj H).trans HT.out) (by decide)
                      ·rw [if_neg c150] at H
                       have c150b0 : (false != false) = false := by first | (simp; done) | (simp at c150; done)
                       (try (have c150b1 : decide (false = false) = true := by first | (simp; done) | (simp at c150; done)))
                       (try (have c150b2 : (false == false) = true := by first | (simp; done) | (simp at c150; done)))
                       clear c150
                       have H' := Aside0.mk H
                       clear H
                       try go_wp2
                       have n0_ := Aside0.mk (blk_drew BK356.out)
                       have n1_ := Aside0.mk (blk_drew BK357.out)
                       have n2_ := Aside0.mk (blk_drew BK376.out)
                       have n3_ := Aside0.mk (below_drew1 HB.out)
                       clear BK356 BK357 BK376 HB
                       have BK356 := n0_
                       have BK357 := n1_
                       have BK376 := n2_
                       have HB := n3_
                       clear n0_ n1_ n2_ n3_
                       refine start_ (n := 14) (S := fun w' => w'.cell? ⟨gb356, 0, none⟩ = some (.int .i64 t342) ∧ w'.cell? ⟨gb356, 1, none⟩ = some (.int .i64 t343) ∧ w'.cell? ⟨gb356, 2, none⟩ = some (.int .i64 t344) ∧ w'.cell? ⟨gb356, 3, none⟩ = some (.int .i64 t345) ∧ w'.cell? ⟨gb356, 4, none⟩ = some (.int .i64 t346)) (ds := []) #[false, false, false, false, false, false, false, false, false, false, false, false, false, false] (by kernel_rfl) rfl rfl ⟨zc BK356 0, zc BK356 1, zc BK356 2, zc BK356 3, zc BK356 4⟩ (fun hHeld => ?_); refine with_tabW laws_FnRead.tab19 laws_FnRead.bits19 (fun HT_ HW_ => ?_)
                       generalize wr.drew = w151 at BK356 BK357 BK376 HB hHeld ⊢
                       refine zp 0 163 (zm 14 1) HT_ ?_
                       refine zp 1 164 (zm 14 3) HT_ ?_
                       refine zp 2 165 (zm 14 7) HT_ ?_
                       refine zp 4 167 (zm 14 23) HT_ ?_
                       refine zp 10 173 (zm 14 1047) HT_ ?_
                       refine zt 5 168 (zm 14 1079) HT_ HW_ hHeld ?_
                       refine zp 6 169 (zm 14 1143) HT_ ?_
                       refine zt 11 174 (zm 14 3191) HT_ HW_ hHeld ?_
                       refine zo 3 (some 166) (zm 14 3199) HT_ (fun K hK => ?_)
                       refine zG Try.func16 #[.slice A1 l1.length c1, .int .i64 x11_5] ?_
                       with_reducible refine (laws_wByte.calls _ _ l1 x11_5 t384 _ ?side1 ?side2 A89.out).mono ?_
                       (case side1 => repeat (first | exact (Kd.C_below HR1.out HB.out) | (with_reducible refine Kd.C_alloc ?_ _) | (with_reducible refine Kd.C_drewN ?_ _) | (with_reducible refine Kd.C_drew ?_)))
                       (case side2 => exact HC1.out)
                       rintro e w' ⟨rfl, ⟨nd, rfl⟩⟩
                       refine ⟨_, rfl, ?_⟩
                       refine hK.out _ _ ⟨zc BK356 0, zc BK356 1, zc BK356 2, zc BK356 3, zc BK356 4⟩ (fun hHeld => ?_)
                       clear hK K
                       refine zn 166 ?_
                       refine zp 7 170 (zm 14 3327) HT_ ?_
                       refine zp 8 171 (zm 14 3583) HT_ ?_
                       refine zp 9 172 (zm 14 4095) HT_ ?_
                       refine zp 12 175 (zm 14 8191) HT_ ?_
                       refine zp 13 12 (zm 14 16383) HT_ ?_
                       refine done_ (done_of HT_.out (by kernel_rfl)) ?_
                       have hnb152 := NB357_356.out
                       have hnc152 := NB356_357.out
                       have hnb153 := NB357_376.out
                       have hnc153 := NB376_357.out
                       obtain ⟨hcz154_0, hcz154_1, hcz154_2, hcz154_3, hcz154_4, hcz154_5, hfz154_0, hfz154_1, hfz154_2, hfz154_3, hfz154_4, hfz154_5⟩ := zs6 BK357
                       have hnb155 := NB376_356.out
                       have hnc155 := NB356_376.out
                       obtain ⟨hcz156_0, hcz156_1, hcz156_2, hcz156_3, hcz156_4, hcz156_5, hfz156_0, hfz156_1, hfz156_2, hfz156_3, hfz156_4, hfz156_5⟩ := zs6 BK376
                       try go_wp2
                       refine Handed.intro k5 ?measure ?_
                       rotate_left
                       go_step
                       refine meetU ?rel (by kernel_rfl) (by kernel_rfl)
                       case measure => have := HJ2.out; have := HJ21.out; have := HJ40.out; have := HJ64.out; have := HK5.out; omega
                       case rel => exact ⟨(wrap64 (x11_5 + 1)), ze, H', ⟨by have := HJ2.out; have := HJ21.out; have := HJ40.out; have := HJ64.out; have := HK5.out; omega⟩, ⟨zy BK356⟩, ⟨zy BK357⟩, ⟨zy BK376⟩, ⟨by repeat (first | (with_reducible first | exact HB.out | apply below_alloc | apply pw_below_drewN | apply below_drew1 | refine below_set ?_ GE356.out | refine below_set ?_ GE357.out | refine below_set ?_ GE376.out) | exact HB.out)⟩⟩
                   ·rw [if_neg c88] at H
                    have c88b0 : decide (x11_5 < 20) = false := decide_eq_false c88
                    clear c88
                    obtain rfl := Option.some.inj H
                    have hnb157 := NB376_356.out
                    have hnc157 := NB356_376.out
                    have hnb158 := NB376_357.out
                    have hnc158 := NB357_376.out
                    obtain ⟨hcz159_0, hcz159_1, hcz159_2, hcz159_3, hcz159_4, hcz159_5, hfz159_0, hfz159_1, hfz159_2, hfz159_3, hfz159_4, hfz159_5⟩ := zs6 BK376
                    go_wp2
                    go_ret
                    exact ⟨by first | rfl | (simp [errW_none, errW_some] <;> rfl) | (simp only [← hji18]; first | rfl | (simp [errW_none, errW_some] <;> rfl)) | (simp [*, errW_none, errW_some] <;> rfl), by repeat (first | (with_reducible first | exact HB.out | apply below_alloc | apply pw_below_drewN | apply below_drew1 | refine below_set ?_ GE356.out | refine below_set ?_ GE357.out | refine below_set ?_ GE376.out) | exact HB.out)⟩
          ·rw [if_neg c39] at H
           exact absurd H (by simp)
         ·rw [if_neg c38] at H
          exact absurd H (by simp)
      ·rw [if_neg c20] at H
       exact absurd H (by simp)
     ·rw [if_neg c19] at H
      exact absurd H (by simp)

/-- THE ONE PURE STATEMENT of laws_FnRead: yours. -/
def laws_FnRead.Pure : Prop := ∀ (l0 : List Int) (l1 : List Int), l0.length ≤ maxLen → l0.length * 1 ≤ 140737488351232 → (∀ x ∈ l0, (Lit.int .u8 x).wf = true) → l1.length ≤ maxLen → l1.length * 1 ≤ 140737488351232 → (∀ x ∈ l1, (Lit.int .u8 x).wf = true) → ∃ k, laws_FnRead.f k l0 l1 = some true
theorem laws_FnRead.walk (P : laws_FnRead.Pure) (a0 : Option Addr) (len0 cap0 : Nat) (z0 : List Int) (a1 : Option Addr) (len1 cap1 : Nat) (z1 : List Int) (w : World) (w0 : (a0 = none ∧ len0 = 0 ∧ cap0 = 0 ∧ z0 = []) ∨ ∃ x, a0 = some x ∧ len0 ≤ cap0 ∧ cap0 ≤ maxLen ∧ z0.length = cap0 ∧ (∀ i, i < z0.length → w.cell? (x.add i) = some (.int .u8 (z0.getD i 0))) ∧ ∀ n ∈ z0, (Lit.int .u8 n).wf = true) (y0 : len0 * 1 ≤ 140737488351232) (w1 : (a1 = none ∧ len1 = 0 ∧ cap1 = 0 ∧ z1 = []) ∨ ∃ x, a1 = some x ∧ len1 ≤ cap1 ∧ cap1 ≤ maxLen ∧ z1.length = cap1 ∧ (∀ i, i < z1.length → w.cell? (x.add i) = some (.int .u8 (z1.getD i 0))) ∧ ∀ n ∈ z1, (Lit.int .u8 n).wf = true) (y1 : len1 * 1 ≤ 140737488351232) :
  Calls Try.prog 3 #[.slice a0 len0 cap0, .slice a1 len1 cap1] w fun e w' => e = .returned (.bool true) ∧ Below w.heap.size w w' := by
 obtain ⟨l0, rfl, hr0, hm0, hw0, hc0⟩ := ReadsInt.ofRowC w0
 obtain ⟨l1, rfl, hr1, hm1, hw1, hc1⟩ := ReadsInt.ofRowC w1
 obtain ⟨k, h⟩ := P l0 l1 hm0 y0 hw0 hm1 y1 hw1
 refine (laws_FnRead.calls k _ _ l0 _ _ l1 true w (Kd.C_of_reads (d := (0 : Int)) (h1 := fun _ => rfl) hr0) hc0 (Kd.C_of_reads (d := (0 : Int)) (h1 := fun _ => rfl) hr1) hc1 h ⟨rfl⟩).mono ?_
 rintro e w' ⟨rfl, hd⟩
 exact ⟨rfl, hd⟩

end Go.Proofs.Ytommdabkkgcgbaa.QFnRead
