-- Written by a program of this session (wip/tools/turnprint.py over the kit's print), for this claim: functions as plain Lean and their contracts.
import Derived.Test.YtommdabkkgcgbaaQFnTruex0
import Derived.Test.YtommdabkkgcgbaaQFnTruex2
namespace Go.Proofs.Ytommdabkkgcgbaa.QFnTrue
open Go.RowKit Go.Proofs.YtommdabkkgcgbaaW.PrintWords Go.Proofs.YtommdabkkgcgbaaW.PrintLast Go.Proofs.YtommdabkkgcgbaaW.PrintMore
attribute [local go_sem] max2_int min2_int max_two min_two max_three min_three max_four min_four   -- for this text's walks alone
set_option linter.unusedVariables false
set_option linter.unusedSimpArgs false

/-! ### impl_Felt: function 49 -/
mutual
def impl_Felt.j0 : Nat → List (S37) → Int → List (S90) → List Int → Bool → Int → Int → Int → Int → Int → Option ((List (S34)))
 | 0, _, _, _, _, _, _, _, _, _, _ => none
 | k + 1, x1, x2, x3, x4, x40, x215000, x215001, x215002, x215003, x215004 => if x40 = true then (some ([] : List (S34))) else (impl_Felt.l0 k x1 x2 x4 ([] : List (S34)) x3 (x3.length : Int) 0 x215000 x215001 x215002 x215003 x215004)
def impl_Felt.l0 : Nat → List (S37) → Int → List Int → List (S34) → List (S90) → Int → Int → Int → Int → Int → Int → Int → Option ((List (S34)))
 | 0, _, _, _, _, _, _, _, _, _, _, _, _ => none
 | k + 1, x1, x2, x4, x11, x41, x42, x43, x215000, x215001, x215002, x215003, x215004 => if x43 < x42 then (if 0 ≤ x43 then (if x43 < (x41.length : Int) then ((impl_in.f ((rd_T90 x41 x43).f0) 0 100000).bind fun t220 => (if t220 = true then ((impl_in.f ((rd_T90 x41 x43).f1) 0 100000).bind fun t221 => (impl_Felt.j2 k x1 x2 x4 x11 x43 x41 x42 x43 (!t221) x215000 x215001 x215002 x215003 x215004 ((rd_T90 x41 x43).f0) ((rd_T90 x41 x43).f1))) else (impl_Felt.j2 k x1 x2 x4 x11 x43 x41 x42 x43 true x215000 x215001 x215002 x215003 x215004 ((rd_T90 x41 x43).f0) ((rd_T90 x41 x43).f1)))) else (none)) else (none)) else (if (x11.length : Int) > 2000 then (some ([] : List (S34))) else (some x11))
def impl_Felt.j2 : Nat → List (S37) → Int → List Int → List (S34) → Int → List (S90) → Int → Int → Bool → Int → Int → Int → Int → Int → Int → Int → Option ((List (S34)))
 | 0, _, _, _, _, _, _, _, _, _, _, _, _, _, _, _, _ => none
 | k + 1, x1, x2, x4, x11, x12, x41, x42, x43, x57, x215000, x215001, x215002, x215003, x215004, x220000, x220001 => if x57 = true then (some ([] : List (S34))) else (if x11.length < 8796093022208 then ((some (x11 ++ [(⟨1, x220001⟩ : S34)] : List (S34))).bind fun y222 => (if (wrap64 (x2 + x220000)) > 100000000 then (some ([] : List (S34))) else (if 0 ≤ x12 then (if x12 < (x4.length : Int) then (if (rd x4 x12) = 1 then (impl_Felt.l1 k x1 (wrap64 (x2 + x220000)) x4 y222 x41 x42 x43 x1 (x1.length : Int) 0 x215000 x215001 x215002 x215003 x215004) else (impl_Felt.l0 k x1 (wrap64 (x2 + x220000)) x4 y222 x41 x42 (wrap64 (x43 + 1)) x215000 x215001 x215002 x215003 x215004)) else (none)) else (none)))) else (none))
def impl_Felt.l1 : Nat → List (S37) → Int → List Int → List (S34) → List (S90) → Int → Int → List (S37) → Int → Int → Int → Int → Int → Int → Int → Option ((List (S34)))
 | 0, _, _, _, _, _, _, _, _, _, _, _, _, _, _, _ => none
 | k + 1, x1, x2, x4, x11, x41, x42, x43, x75, x76, x77, x215000, x215001, x215002, x215003, x215004 => if x77 < x76 then (if 0 ≤ x77 then (if x77 < (x75.length : Int) then ((impl_in.f (wrap64 (((rd_T37 x75 x77).f1) - x2)) (wrap64 (-x215002)) x215002).bind fun t228 => (if t228 = true then (if x11.length < 8796093022208 then (impl_Felt.l1 k x1 x2 x4 (x11 ++ [(⟨2, (rd_T37 x75 x77).f0⟩ : S34)]) x41 x42 x43 x75 x76 (wrap64 (x77 + 1)) x215000 x215001 x215002 x215003 x215004) else (none)) else (impl_Felt.l1 k x1 x2 x4 x11 x41 x42 x43 x75 x76 (wrap64 (x77 + 1)) x215000 x215001 x215002 x215003 x215004))) else (none)) else (none)) else (impl_Felt.l0 k x1 x2 x4 x11 x41 x42 (wrap64 (x43 + 1)) x215000 x215001 x215002 x215003 x215004)
end
def impl_Felt.f (k : Nat) (a0_0 : Int) (a0_1 : Int) (a0_2 : Int) (a0_3 : Int) (a0_4 : Int) (l1 : List (S37)) (a2 : Int) (l3 : List (S90)) (l4 : List Int) : Option ((List (S34))) := (impl_RulesOk.f a0_0 a0_1 a0_2 a0_3 a0_4).bind fun t215 => (if t215 = true then ((impl_MarksOk.f l1).bind fun t216 => (if t216 = true then ((impl_in.f a2 0 100000000).bind fun t217 => (if t217 = true then (if (l3.length : Int) > 2000 then (impl_Felt.j0 k l1 a2 l3 l4 true a0_0 a0_1 a0_2 a0_3 a0_4) else (impl_Felt.j0 k l1 a2 l3 l4 ((l4.length : Int) != (l3.length : Int)) a0_0 a0_1 a0_2 a0_3 a0_4)) else (impl_Felt.j0 k l1 a2 l3 l4 true a0_0 a0_1 a0_2 a0_3 a0_4))) else (impl_Felt.j0 k l1 a2 l3 l4 true a0_0 a0_1 a0_2 a0_3 a0_4))) else (impl_Felt.j0 k l1 a2 l3 l4 true a0_0 a0_1 a0_2 a0_3 a0_4))
theorem impl_Felt.mono_l : ∀ k, (∀ y0 y1 y2 y3 y4 y5 y6 y7 y8 y9, LeO (impl_Felt.j0 k y0 y1 y2 y3 y4 y5 y6 y7 y8 y9) (impl_Felt.j0 (k + 1) y0 y1 y2 y3 y4 y5 y6 y7 y8 y9)) ∧ (∀ y0 y1 y2 y3 y4 y5 y6 y7 y8 y9 y10 y11, LeO (impl_Felt.l0 k y0 y1 y2 y3 y4 y5 y6 y7 y8 y9 y10 y11) (impl_Felt.l0 (k + 1) y0 y1 y2 y3 y4 y5 y6 y7 y8 y9 y10 y11)) ∧ (∀ y0 y1 y2 y3 y4 y5 y6 y7 y8 y9 y10 y11 y12 y13 y14 y15, LeO (impl_Felt.j2 k y0 y1 y2 y3 y4 y5 y6 y7 y8 y9 y10 y11 y12 y13 y14 y15) (impl_Felt.j2 (k + 1) y0 y1 y2 y3 y4 y5 y6 y7 y8 y9 y10 y11 y12 y13 y14 y15)) ∧ (∀ y0 y1 y2 y3 y4 y5 y6 y7 y8 y9 y10 y11 y12 y13 y14, LeO (impl_Felt.l1 k y0 y1 y2 y3 y4 y5 y6 y7 y8 y9 y10 y11 y12 y13 y14) (impl_Felt.l1 (k + 1) y0 y1 y2 y3 y4 y5 y6 y7 y8 y9 y10 y11 y12 y13 y14))
 | 0 => ⟨fun _ _ _ _ _ _ _ _ _ _ r h => by simp [impl_Felt.j0] at h, fun _ _ _ _ _ _ _ _ _ _ _ _ r h => by simp [impl_Felt.l0] at h, fun _ _ _ _ _ _ _ _ _ _ _ _ _ _ _ _ r h => by simp [impl_Felt.j2] at h, fun _ _ _ _ _ _ _ _ _ _ _ _ _ _ _ r h => by simp [impl_Felt.l1] at h⟩
 | k + 1 => by
  obtain ⟨ih0, ih1, ih2, ih3⟩ := impl_Felt.mono_l k
  refine ⟨?_, ?_, ?_, ?_⟩
  ·intro y0 y1 y2 y3 y4 y5 y6 y7 y8 y9
   unfold impl_Felt.j0
   repeat' first
   | (with_reducible exact ih0 _ _ _ _ _ _ _ _ _ _)
   | (with_reducible exact ih1 _ _ _ _ _ _ _ _ _ _ _ _)
   | (with_reducible exact ih2 _ _ _ _ _ _ _ _ _ _ _ _ _ _ _ _)
   | (with_reducible exact ih3 _ _ _ _ _ _ _ _ _ _ _ _ _ _ _)
   | (with_reducible exact LeO.refl _)
   | (with_reducible exact LeO.none _)
   | (with_reducible refine LeO.ite ?_ ?_)
   | (with_reducible refine LeO.bind ?_ (fun _ => ?_))
   | exact ih0 _ _ _ _ _ _ _ _ _ _
   | exact ih1 _ _ _ _ _ _ _ _ _ _ _ _
   | exact ih2 _ _ _ _ _ _ _ _ _ _ _ _ _ _ _ _
   | exact ih3 _ _ _ _ _ _ _ _ _ _ _ _ _ _ _
   | exact LeO.none _
   | refine LeO.ite ?_ ?_
   | refine LeO.bind ?_ (fun _ => ?_)
  ·intro y0 y1 y2 y3 y4 y5 y6 y7 y8 y9 y10 y11
   unfold impl_Felt.l0
   repeat' first
   | (with_reducible exact ih0 _ _ _ _ _ _ _ _ _ _)
   | (with_reducible exact ih1 _ _ _ _ _ _ _ _ _ _ _ _)
   | (with_reducible exact ih2 _ _ _ _ _ _ _ _ _ _ _ _ _ _ _ _)
   | (with_reducible exact ih3 _ _ _ _ _ _ _ _ _ _ _ _ _ _ _)
   | (with_reducible exact LeO.refl _)
   | (with_reducible exact LeO.none _)
   | (with_reducible refine LeO.ite ?_ ?_)
   | (with_reducible refine LeO.bind ?_ (fun _ => ?_))
   | exact ih0 _ _ _ _ _ _ _ _ _ _
   | exact ih1 _ _ _ _ _ _ _ _ _ _ _ _
   | exact ih2 _ _ _ _ _ _ _ _ _ _ _ _ _ _ _ _
   | exact ih3 _ _ _ _ _ _ _ _ _ _ _ _ _ _ _
   | exact LeO.none _
   | refine LeO.ite ?_ ?_
   | refine LeO.bind ?_ (fun _ => ?_)
  ·intro y0 y1 y2 y3 y4 y5 y6 y7 y8 y9 y10 y11 y12 y13 y14 y15
   unfold impl_Felt.j2
   repeat' first
   | (with_reducible exact ih0 _ _ _ _ _ _ _ _ _ _)
   | (with_reducible exact ih1 _ _ _ _ _ _ _ _ _ _ _ _)
   | (with_reducible exact ih2 _ _ _ _ _ _ _ _ _ _ _ _ _ _ _ _)
   | (with_reducible exact ih3 _ _ _ _ _ _ _ _ _ _ _ _ _ _ _)
   | (with_reducible exact LeO.refl _)
   | (with_reducible exact LeO.none _)
   | (with_reducible refine LeO.ite ?_ ?_)
   | (with_reducible refine LeO.bind ?_ (fun _ => ?_))
   | exact ih0 _ _ _ _ _ _ _ _ _ _
   | exact ih1 _ _ _ _ _ _ _ _ _ _ _ _
   | exact ih2 _ _ _ _ _ _ _ _ _ _ _ _ _ _ _ _
   | exact ih3 _ _ _ _ _ _ _ _ _ _ _ _ _ _ _
   | exact LeO.none _
   | refine LeO.ite ?_ ?_
   | refine LeO.bind ?_ (fun _ => ?_)
  ·intro y0 y1 y2 y3 y4 y5 y6 y7 y8 y9 y10 y11 y12 y13 y14
   unfold impl_Felt.l1
   repeat' first
   | (with_reducible exact ih0 _ _ _ _ _ _ _ _ _ _)
   | (with_reducible exact ih1 _ _ _ _ _ _ _ _ _ _ _ _)
   | (with_reducible exact ih2 _ _ _ _ _ _ _ _ _ _ _ _ _ _ _ _)
   | (with_reducible exact ih3 _ _ _ _ _ _ _ _ _ _ _ _ _ _ _)
   | (with_reducible exact LeO.refl _)
   | (with_reducible exact LeO.none _)
   | (with_reducible refine LeO.ite ?_ ?_)
   | (with_reducible refine LeO.bind ?_ (fun _ => ?_))
   | exact ih0 _ _ _ _ _ _ _ _ _ _
   | exact ih1 _ _ _ _ _ _ _ _ _ _ _ _
   | exact ih2 _ _ _ _ _ _ _ _ _ _ _ _ _ _ _ _
   | exact ih3 _ _ _ _ _ _ _ _ _ _ _ _ _ _ _
   | exact LeO.none _
   | refine LeO.ite ?_ ?_
   | refine LeO.bind ?_ (fun _ => ?_)
theorem impl_Felt.mono : ∀ a0 a1 a2 a3 a4 a5 a6 a7 a8 k, LeO (impl_Felt.f k a0 a1 a2 a3 a4 a5 a6 a7 a8) (impl_Felt.f (k + 1) a0 a1 a2 a3 a4 a5 a6 a7 a8) := by
 intro a0 a1 a2 a3 a4 a5 a6 a7 a8 k
 obtain ⟨ih0, ih1, ih2, ih3⟩ := impl_Felt.mono_l k
 unfold impl_Felt.f
 repeat' first
   | (with_reducible exact ih0 _ _ _ _ _ _ _ _ _ _)
   | (with_reducible exact ih1 _ _ _ _ _ _ _ _ _ _ _ _)
   | (with_reducible exact ih2 _ _ _ _ _ _ _ _ _ _ _ _ _ _ _ _)
   | (with_reducible exact ih3 _ _ _ _ _ _ _ _ _ _ _ _ _ _ _)
   | (with_reducible exact LeO.refl _)
   | (with_reducible exact LeO.none _)
   | (with_reducible refine LeO.ite ?_ ?_)
   | (with_reducible refine LeO.bind ?_ (fun _ => ?_))
   | exact ih0 _ _ _ _ _ _ _ _ _ _
   | exact ih1 _ _ _ _ _ _ _ _ _ _ _ _
   | exact ih2 _ _ _ _ _ _ _ _ _ _ _ _ _ _ _ _
   | exact ih3 _ _ _ _ _ _ _ _ _ _ _ _ _ _ _
   | exact LeO.none _
   | refine LeO.ite ?_ ?_
   | refine LeO.bind ?_ (fun _ => ?_)
set_option maxHeartbeats 8000000 in
set_option maxRecDepth 100000 in
theorem impl_Felt.calls (k : Nat) (a0_0 : Int) (a0_1 : Int) (a0_2 : Int) (a0_3 : Int) (a0_4 : Int) (A1 : Option Addr) (c1 : Nat) (l1 : List (S37)) (a2 : Int) (A3 : Option Addr) (c3 : Nat) (l3 : List (S90)) (A4 : Option Addr) (c4 : Nat) (l4 : List Int) (r : List (S34)) (w : World) (hr1 : Kd.C k37 w A1 l1.length l1) (hc1 : l1.length ≤ c1) (hr3 : Kd.C k90 w A3 l3.length l3) (hc3 : l3.length ≤ c3) (hr4 : Kd.C (Kd.int .i64) w A4 l4.length l4) (hc4 : l4.length ≤ c4) (h : impl_Felt.f k a0_0 a0_1 a0_2 a0_3 a0_4 l1 a2 l3 l4 = some r) :
  Calls Try.prog 49 #[.agg #[.int .i64 a0_0, .int .i64 a0_1, .int .i64 a0_2, .int .i64 a0_3, .int .i64 a0_4], .slice A1 l1.length c1, .int .i64 a2, .slice A3 l3.length c3, .slice A4 l4.length c4] w fun e w' => ∃ v0_ : Value, e = .returned (v0_) ∧ Kd.R k34 34 w' w.heap.size (fun _ => True) v0_ r ∧ Below w.heap.size w w' := by
 have hu24 := Try.underlying24
 have hu90 := Try.underlying90
 have hu34 := Try.underlying34
 have hu37 := Try.underlying37
 have HR1 := Aside0.mk hr1
 have HC1 := Aside0.mk hc1
 clear hr1 hc1
 have HR3 := Aside0.mk hr3
 have HC3 := Aside0.mk hc3
 clear hr3 hc3
 have HR4 := Aside0.mk hr4
 have HC4 := Aside0.mk hc4
 clear hr4 hc4
 have HB := Aside0.mk (Below.refl w.heap.size w)
 have H : ((impl_RulesOk.f a0_0 a0_1 a0_2 a0_3 a0_4).bind fun t215 => (if t215 = true then ((impl_MarksOk.f l1).bind fun t216 => (if t216 = true then ((impl_in.f a2 0 100000000).bind fun t217 => (if t217 = true then (if (l3.length : Int) > 2000 then (impl_Felt.j0 k l1 a2 l3 l4 true a0_0 a0_1 a0_2 a0_3 a0_4) else (impl_Felt.j0 k l1 a2 l3 l4 ((l4.length : Int) != (l3.length : Int)) a0_0 a0_1 a0_2 a0_3 a0_4)) else (impl_Felt.j0 k l1 a2 l3 l4 true a0_0 a0_1 a0_2 a0_3 a0_4))) else (impl_Felt.j0 k l1 a2 l3 l4 true a0_0 a0_1 a0_2 a0_3 a0_4))) else (impl_Felt.j0 k l1 a2 l3 l4 true a0_0 a0_1 a0_2 a0_3 a0_4))) = some r := h
 clear h
 have HC6 := Aside0.mk H
 clear H
 go_enter Try.func49, Try.ntmps49
 go_upto_region 1 with (first | ((with_reducible refine gate_dst (N := 5) rfl ?_); (try (refine gate_guard (by rfl) ?_; dsimp only)); refine zx 5 #[.int .i64 a0_0, .int .i64 a0_1, .int .i64 a0_2, .int .i64 a0_3, .int .i64 a0_4] 24 ?_; intro gb214 hg w7 hbox hb; have BK214 := Aside0.mk (hbox); have GW214 := zge HB hg; have GE214 := GW214; replace HB := zB HB hb; clear hb hbox hg))
 (try simp only [Act.put, List.setIfInBounds_toArray, List.set_cons_zero, List.set_cons_succ])
 go_cut [40] (fun v40 wc => ∃ (kq : Nat) (x40_5 : Bool), v40 = .bool x40_5 ∧ Aside0 (impl_Felt.j0 kq l1 a2 l3 l4 x40_5 a0_0 a0_1 a0_2 a0_3 a0_4 = some r) ∧ Aside0 (kq ≤ k) ∧ Aside0 (wc.heap[gb214]? = some (.cells #[.int .i64 a0_0, .int .i64 a0_1, .int .i64 a0_2, .int .i64 a0_3, .int .i64 a0_4] 24 (0, 0))) ∧ Aside0 (Below w.heap.size w wc))
 case first =>
  have H := HC6.out
  clear HC6
  replace H := Option.bind_eq_some_iff.mp H
  obtain ⟨t215, A80, H⟩ := H
  replace H : (if t215 = true then ((impl_MarksOk.f l1).bind fun t216 => (if t216 = true then ((impl_in.f a2 0 100000000).bind fun t217 => (if t217 = true then (if (l3.length : Int) > 2000 then (impl_Felt.j0 k l1 a2 l3 l4 true a0_0 a0_1 a0_2 a0_3 a0_4) else (impl_Felt.j0 k l1 a2 l3 l4 ((l4.length : Int) != (l3.length : Int)) a0_0 a0_1 a0_2 a0_3 a0_4)) else (impl_Felt.j0 k l1 a2 l3 l4 true a0_0 a0_1 a0_2 a0_3 a0_4))) else (impl_Felt.j0 k l1 a2 l3 l4 true a0_0 a0_1 a0_2 a0_3 a0_4))) else (impl_Felt.j0 k l1 a2 l3 l4 true a0_0 a0_1 a0_2 a0_3 a0_4)) = some r := H
  have A8 := Aside0.mk A80
  clear A80
  by_cases c9 : t215 = true
  ·subst c9
   have H1 : ((impl_MarksOk.f l1).bind fun t216 => (if t216 = true then ((impl_in.f a2 0 100000000).bind fun t217 => (if t217 = true then (if (l3.length : Int) > 2000 then (impl_Felt.j0 k l1 a2 l3 l4 true a0_0 a0_1 a0_2 a0_3 a0_4) else (impl_Felt.j0 k l1 a2 l3 l4 ((l4.length : Int) != (l3.length : Int)) a0_0 a0_1 a0_2 a0_3 a0_4)) else (impl_Felt.j0 k l1 a2 l3 l4 true a0_0 a0_1 a0_2 a0_3 a0_4))) else (impl_Felt.j0 k l1 a2 l3 l4 true a0_0 a0_1 a0_2 a0_3 a0_4))) = some r := by rw [if_pos rfl] at H; exact H
   clear H
   have H := H1
   clear H1
   replace H := Option.bind_eq_some_iff.mp H
   obtain ⟨t216, A100, H⟩ := H
   replace H : (if t216 = true then ((impl_in.f a2 0 100000000).bind fun t217 => (if t217 = true then (if (l3.length : Int) > 2000 then (impl_Felt.j0 k l1 a2 l3 l4 true a0_0 a0_1 a0_2 a0_3 a0_4) else (impl_Felt.j0 k l1 a2 l3 l4 ((l4.length : Int) != (l3.length : Int)) a0_0 a0_1 a0_2 a0_3 a0_4)) else (impl_Felt.j0 k l1 a2 l3 l4 true a0_0 a0_1 a0_2 a0_3 a0_4))) else (impl_Felt.j0 k l1 a2 l3 l4 true a0_0 a0_1 a0_2 a0_3 a0_4)) = some r := H
   have A10 := Aside0.mk A100
   clear A100
   by_cases c11 : t216 = true
   ·subst c11
    have H1 : ((impl_in.f a2 0 100000000).bind fun t217 => (if t217 = true then (if (l3.length : Int) > 2000 then (impl_Felt.j0 k l1 a2 l3 l4 true a0_0 a0_1 a0_2 a0_3 a0_4) else (impl_Felt.j0 k l1 a2 l3 l4 ((l4.length : Int) != (l3.length : Int)) a0_0 a0_1 a0_2 a0_3 a0_4)) else (impl_Felt.j0 k l1 a2 l3 l4 true a0_0 a0_1 a0_2 a0_3 a0_4))) = some r := by rw [if_pos rfl] at H; exact H
    clear H
    have H := H1
    clear H1
    replace H := Option.bind_eq_some_iff.mp H
    obtain ⟨t217, A120, H⟩ := H
    replace H : (if t217 = true then (if (l3.length : Int) > 2000 then (impl_Felt.j0 k l1 a2 l3 l4 true a0_0 a0_1 a0_2 a0_3 a0_4) else (impl_Felt.j0 k l1 a2 l3 l4 ((l4.length : Int) != (l3.length : Int)) a0_0 a0_1 a0_2 a0_3 a0_4)) else (impl_Felt.j0 k l1 a2 l3 l4 true a0_0 a0_1 a0_2 a0_3 a0_4)) = some r := H
    have A12 := Aside0.mk A120
    clear A120
    by_cases c13 : t217 = true
    ·subst c13
     have H1 : (if (l3.length : Int) > 2000 then (impl_Felt.j0 k l1 a2 l3 l4 true a0_0 a0_1 a0_2 a0_3 a0_4) else (impl_Felt.j0 k l1 a2 l3 l4 ((l4.length : Int) != (l3.length : Int)) a0_0 a0_1 a0_2 a0_3 a0_4)) = some r := by rw [if_pos rfl] at H; exact H
     clear H
     have H := H1
     clear H1
     by_cases c14 : (l3.length : Int) > 2000
     ·rw [if_pos c14] at H
      have c14b0 : decide (2000 < (l3.length : Int)) = true := decide_eq_true c14
      have c14b1 : decide (2000 < l3.length) = true := decide_eq_true (by omega)
      clear c14
      (first | rw [c14b0] | (simp only [i64_w, i32_w]; rw [c14b0]) | skip)
      have H' := Aside0.mk H
      clear H
      obtain ⟨hcz15_0, hcz15_1, hcz15_2, hcz15_3, hcz15_4, hfz15_0, hfz15_1, hfz15_2, hfz15_3, hfz15_4⟩ := zs5 BK214
      go_wp2_with (first | ((with_reducible refine gate_callee (f := 64) rfl ?_); refine zL (some 17) Try.func64 #[.agg #[.int .i64 a0_0, .int .i64 a0_1, .int .i64 a0_2, .int .i64 a0_3, .int .i64 a0_4]] ?_; (with_reducible refine (impl_RulesOk.calls a0_0 a0_1 a0_2 a0_3 a0_4 true _ A8.out).mono ?_); rintro e w16 ⟨rfl, hb⟩; refine ⟨_, rfl, ?_⟩; replace BK214 := zb BK214 hb; replace HB := zB HB hb; (try clear hb)) | (go_at_call 37; (with_reducible refine (impl_MarksOk.calls _ _ l1 true _ ?side1 ?side2 A10.out).mono ?_); (case side1 => repeat (first | exact (Kd.C_below HR1.out HB.out) | (with_reducible refine Kd.C_alloc ?_ _) | (with_reducible refine Kd.C_drewN ?_ _) | (with_reducible refine Kd.C_drew ?_))); (case side2 => exact HC1.out); rintro e w17 ⟨rfl, hb⟩; replace BK214 := zb BK214 hb; replace HB := zB HB hb; (try clear hb)) | (go_at_call 81; (with_reducible refine (impl_in.calls a2 0 100000000 true _ A12.out).mono ?_); rintro e w' ⟨rfl, ⟨nd, rfl⟩⟩))
      go_meet
      case rel => exact ⟨_, (true), ze, H', ⟨by first | omega | exact Nat.le_refl _⟩, ⟨zy BK214⟩, ⟨by repeat (first | (with_reducible first | exact HB.out | apply below_alloc | apply pw_below_drewN | apply below_drew1 | refine below_set ?_ GE214.out) | exact HB.out)⟩⟩
     ·rw [if_neg c14] at H
      have c14b0 : decide (2000 < (l3.length : Int)) = false := decide_eq_false c14
      have c14b1 : decide (2000 < l3.length) = false := decide_eq_false (by omega)
      clear c14
      (first | rw [c14b0] | (simp only [i64_w, i32_w]; rw [c14b0]) | skip)
      have H' := Aside0.mk H
      clear H
      obtain ⟨hcz18_0, hcz18_1, hcz18_2, hcz18_3, hcz18_4, hfz18_0, hfz18_1, hfz18_2, hfz18_3, hfz18_4⟩ := zs5 BK214
      go_wp2_with (first | ((with_reducible refine gate_callee (f := 64) rfl ?_); refine zL (some 17) Try.func64 #[.agg #[.int .i64 a0_0, .int .i64 a0_1, .int .i64 a0_2, .int .i64 a0_3, .int .i64 a0_4]] ?_; (with_reducible refine (impl_RulesOk.calls a0_0 a0_1 a0_2 a0_3 a0_4 true _ A8.out).mono ?_); rintro e w19 ⟨rfl, hb⟩; refine ⟨_, rfl, ?_⟩; replace BK214 := zb BK214 hb; replace HB := zB HB hb; (try clear hb)) | (go_at_call 37; (with_reducible refine (impl_MarksOk.calls _ _ l1 true _ ?side1 ?side2 A10.out).mono ?_); (case side1 => repeat (first | exact (Kd.C_below HR1.out HB.out) | (with_reducible refine Kd.C_alloc ?_ _) | (with_reducible refine Kd.C_drewN ?_ _) | (with_reducible refine Kd.C_drew ?_))); (case side2 => exact HC1.out); rintro e w20 ⟨rfl, hb⟩; replace BK214 := zb BK214 hb; replace HB := zB HB hb; (try clear hb)) | (go_at_call 81; (with_reducible refine (impl_in.calls a2 0 100000000 true _ A12.out).mono ?_); rintro e w' ⟨rfl, ⟨nd, rfl⟩⟩))
      go_meet
      case rel => exact ⟨_, (((l4.length : Int) != (l3.length : Int))), ze, H', ⟨by first | omega | exact Nat.le_refl _⟩, ⟨zy BK214⟩, ⟨by repeat (first | (with_reducible first | exact HB.out | apply below_alloc | apply pw_below_drewN | apply below_drew1 | refine below_set ?_ GE214.out) | exact HB.out)⟩⟩
    ·replace c13 := Bool.eq_false_iff.mpr c13
     subst c13
     have H1 : (impl_Felt.j0 k l1 a2 l3 l4 true a0_0 a0_1 a0_2 a0_3 a0_4) = some r := by rw [if_neg (show ¬ (false = true) by decide)] at H; exact H
     clear H
     have H := H1
     clear H1
     have H' := Aside0.mk H
     clear H
     obtain ⟨hcz21_0, hcz21_1, hcz21_2, hcz21_3, hcz21_4, hfz21_0, hfz21_1, hfz21_2, hfz21_3, hfz21_4⟩ := zs5 BK214
     go_wp2_with (first | ((with_reducible refine gate_callee (f := 64) rfl ?_); refine zL (some 17) Try.func64 #[.agg #[.int .i64 a0_0, .int .i64 a0_1, .int .i64 a0_2, .int .i64 a0_3, .int .i64 a0_4]] ?_; (with_reducible refine (impl_RulesOk.calls a0_0 a0_1 a0_2 a0_3 a0_4 true _ A8.out).mono ?_); rintro e w22 ⟨rfl, hb⟩; refine ⟨_, rfl, ?_⟩; replace BK214 := zb BK214 hb; replace HB := zB HB hb; (try clear hb)) | (go_at_call 37; (with_reducible refine (impl_MarksOk.calls _ _ l1 true _ ?side1 ?side2 A10.out).mono ?_); (case side1 => repeat (first | exact (Kd.C_below HR1.out HB.out) | (with_reducible refine Kd.C_alloc ?_ _) | (with_reducible refine Kd.C_drewN ?_ _) | (with_reducible refine Kd.C_drew ?_))); (case side2 => exact HC1.out); rintro e w23 ⟨rfl, hb⟩; replace BK214 := zb BK214 hb; replace HB := zB HB hb; (try clear hb)) | (go_at_call 81; (with_reducible refine (impl_in.calls a2 0 100000000 false _ A12.out).mono ?_); rintro e w' ⟨rfl, ⟨nd, rfl⟩⟩))
     go_meet
     case rel => exact ⟨_, (true), ze, H', ⟨by first | omega | exact Nat.le_refl _⟩, ⟨zy BK214⟩, ⟨by repeat (first | (with_reducible first | exact HB.out | apply below_alloc | apply pw_below_drewN | apply below_drew1 | refine below_set ?_ GE214.out) | exact HB.out)⟩⟩
   ·replace c11 := Bool.eq_false_iff.mpr c11
    subst c11
    have H1 : (impl_Felt.j0 k l1 a2 l3 l4 true a0_0 a0_1 a0_2 a0_3 a0_4) = some r := by rw [if_neg (show ¬ (false = true) by decide)] at H; exact H
    clear H
    have H := H1
    clear H1
    have H' := Aside0.mk H
    clear H
    obtain ⟨hcz24_0, hcz24_1, hcz24_2, hcz24_3, hcz24_4, hfz24_0, hfz24_1, hfz24_2, hfz24_3, hfz24_4⟩ := zs5 BK214
    go_wp2_with (first | ((with_reducible refine gate_callee (f := 64) rfl ?_); refine zL (some 17) Try.func64 #[.agg #[.int .i64 a0_0, .int .i64 a0_1, .int .i64 a0_2, .int .i64 a0_3, .int .i64 a0_4]] ?_; (with_reducible refine (impl_RulesOk.calls a0_0 a0_1 a0_2 a0_3 a0_4 true _ A8.out).mono ?_); rintro e w25 ⟨rfl, hb⟩; refine ⟨_, rfl, ?_⟩; replace BK214 := zb BK214 hb; replace HB := zB HB hb; (try clear hb)) | (go_at_call 37; (with_reducible refine (impl_MarksOk.calls _ _ l1 false _ ?side1 ?side2 A10.out).mono ?_); (case side1 => repeat (first | exact (Kd.C_below HR1.out HB.out) | (with_reducible refine Kd.C_alloc ?_ _) | (with_reducible refine Kd.C_drewN ?_ _) | (with_reducible refine Kd.C_drew ?_))); (case side2 => exact HC1.out); rintro e w26 ⟨rfl, hb⟩; replace BK214 := zb BK214 hb; replace HB := zB HB hb; (try clear hb)))
    go_meet
    case rel => exact ⟨_, (true), ze, H', ⟨by first | omega | exact Nat.le_refl _⟩, ⟨zy BK214⟩, ⟨by repeat (first | (with_reducible first | exact HB.out | apply below_alloc | apply pw_below_drewN | apply below_drew1 | refine below_set ?_ GE214.out) | exact HB.out)⟩⟩
  ·replace c9 := Bool.eq_false_iff.mpr c9
   subst c9
   have H1 : (impl_Felt.j0 k l1 a2 l3 l4 true a0_0 a0_1 a0_2 a0_3 a0_4) = some r := by rw [if_neg (show ¬ (false = true) by decide)] at H; exact H
   clear H
   have H := H1
   clear H1
   have H' := Aside0.mk H
   clear H
   obtain ⟨hcz27_0, hcz27_1, hcz27_2, hcz27_3, hcz27_4, hfz27_0, hfz27_1, hfz27_2, hfz27_3, hfz27_4⟩ := zs5 BK214
   go_wp2_with (first | ((with_reducible refine gate_callee (f := 64) rfl ?_); refine zL (some 17) Try.func64 #[.agg #[.int .i64 a0_0, .int .i64 a0_1, .int .i64 a0_2, .int .i64 a0_3, .int .i64 a0_4]] ?_; (with_reducible refine (impl_RulesOk.calls a0_0 a0_1 a0_2 a0_3 a0_4 false _ A8.out).mono ?_); rintro e w28 ⟨rfl, hb⟩; refine ⟨_, rfl, ?_⟩; replace BK214 := zb BK214 hb; replace HB := zB HB hb; (try clear hb)))
   go_meet
   case rel => exact ⟨_, (true), ze, H', ⟨by first | omega | exact Nat.le_refl _⟩, ⟨zy BK214⟩, ⟨by repeat (first | (with_reducible first | exact HB.out | apply below_alloc | apply pw_below_drewN | apply below_drew1 | refine below_set ?_ GE214.out) | exact HB.out)⟩⟩
 case rest =>
  clear HC6
  (try clear c1); (try clear p2); (try clear c3); (try clear c4); (try clear c6); (try clear c9); (try clear c11); (try clear c13); (try clear c14); (try clear c14b0); (try clear c14b1); (try clear hcz15_0); (try clear hcz15_1); (try clear hcz15_2); (try clear hcz15_3); (try clear hcz15_4); (try clear hcz18_0); (try clear hcz18_1); (try clear hcz18_2); (try clear hcz18_3); (try clear hcz18_4); (try clear hcz21_0); (try clear hcz21_1); (try clear hcz21_2); (try clear hcz21_3); (try clear hcz21_4); (try clear hcz24_0); (try clear hcz24_1); (try clear hcz24_2); (try clear hcz24_3); (try clear hcz24_4); (try clear hcz27_0); (try clear hcz27_1); (try clear hcz27_2); (try clear hcz27_3); (try clear hcz27_4); (try clear hfz15_0); (try clear hfz15_1); (try clear hfz15_2); (try clear hfz15_3); (try clear hfz15_4); (try clear hfz18_0); (try clear hfz18_1); (try clear hfz18_2); (try clear hfz18_3); (try clear hfz18_4); (try clear hfz21_0); (try clear hfz21_1); (try clear hfz21_2); (try clear hfz21_3); (try clear hfz21_4); (try clear hfz24_0); (try clear hfz24_1); (try clear hfz24_2); (try clear hfz24_3); (try clear hfz24_4); (try clear hfz27_0); (try clear hfz27_1); (try clear hfz27_2); (try clear hfz27_3); (try clear hfz27_4)
  obtain ⟨kq, x40_5, rfl, HA, HJ5, BK214, HB⟩ := hcut
  cases kq with
  | zero => exact absurd HA.out (by simp [impl_Felt.j0])
  | succ kj5 =>
   have H := HA.out
   clear HA
   simp only [impl_Felt.j0] at H
   by_cases c29 : x40_5 = true
   ·subst c29
    have H1 : (some ([] : List (S34))) = some r := by rw [if_pos rfl] at H; exact H
    clear H
    have H := H1
    clear H1
    obtain rfl := Option.some.inj H
    go_wp2
    go_ret
    exact ⟨_, by first | rfl | (simp [errW_none, errW_some] <;> rfl) | (simp [*, errW_none, errW_some] <;> rfl), by first | exact Kd.R_nil _ _ _ _ _ | exact Kd.N_nil _ _ _ _ _ | exact Kd.V_nil _ _ _ _ _ | exact Kd.Q_nil _ _ _ _ _ | exact Kd.S_nil _ _ _ _ _, by repeat (first | (with_reducible first | exact HB.out | apply below_alloc | apply pw_below_drewN | apply below_drew1 | refine below_set ?_ GE214.out) | exact HB.out)⟩
   ·replace c29 := Bool.eq_false_iff.mpr c29
    subst c29
    have H1 : (impl_Felt.l0 kj5 l1 a2 l4 ([] : List (S34)) l3 (l3.length : Int) 0 a0_0 a0_1 a0_2 a0_3 a0_4) = some r := by rw [if_neg (show ¬ (false = true) by decide)] at H; exact H
    clear H
    have H := H1
    clear H1
    have H' := Aside0.mk H
    clear H
    go_wp2
    go_loopg [2, 11, 43] kj5 (fun kq v2 v11 v43 w' => ∃ (x2_2 : Int) (x11_2 : List (S34)) (x43_2 : Int), v2 = .int .i64 x2_2 ∧ v43 = .int .i64 x43_2 ∧ Aside0 (impl_Felt.l0 kq l1 x2_2 l4 x11_2 l3 (l3.length : Int) x43_2 a0_0 a0_1 a0_2 a0_3 a0_4 = some r) ∧ Aside0 (kq ≤ kj5) ∧ Aside0 (Kd.R k34 34 w' w.heap.size (fun _ => True) v11 x11_2) ∧ Aside0 (w'.heap[gb214]? = some (.cells #[.int .i64 a0_0, .int .i64 a0_1, .int .i64 a0_2, .int .i64 a0_3, .int .i64 a0_4] 24 (0, 0))) ∧ Aside0 (Below w.heap.size w w'))
    case atStart => exact ⟨(a2), (([] : List (S34))), (0), ze, ze, H', ⟨Nat.le_refl _⟩, ⟨by first | exact Kd.R_nil _ _ _ _ _ | exact Kd.N_nil _ _ _ _ _ | exact Kd.V_nil _ _ _ _ _ | exact Kd.Q_nil _ _ _ _ _ | exact Kd.S_nil _ _ _ _ _⟩, ⟨zy BK214⟩, ⟨by repeat (first | (with_reducible first | exact HB.out | apply below_alloc | apply pw_below_drewN | apply below_drew1 | refine below_set ?_ GE214.out) | exact HB.out)⟩⟩
    case round =>
     clear H'
     (try clear c1); (try clear c2); (try clear p2); (try clear c3); (try clear c4); (try clear c6); (try clear c9); (try clear c11); (try clear c13); (try clear c14); (try clear c14b0); (try clear c14b1); (try clear c29); (try clear hcz15_0); (try clear hcz15_1); (try clear hcz15_2); (try clear hcz15_3); (try clear hcz15_4); (try clear hcz18_0); (try clear hcz18_1); (try clear hcz18_2); (try clear hcz18_3); (try clear hcz18_4); (try clear hcz21_0); (try clear hcz21_1); (try clear hcz21_2); (try clear hcz21_3); (try clear hcz21_4); (try clear hcz24_0); (try clear hcz24_1); (try clear hcz24_2); (try clear hcz24_3); (try clear hcz24_4); (try clear hcz27_0); (try clear hcz27_1); (try clear hcz27_2); (try clear hcz27_3); (try clear hcz27_4); (try clear hfz15_0); (try clear hfz15_1); (try clear hfz15_2); (try clear hfz15_3); (try clear hfz15_4); (try clear hfz18_0); (try clear hfz18_1); (try clear hfz18_2); (try clear hfz18_3); (try clear hfz18_4); (try clear hfz21_0); (try clear hfz21_1); (try clear hfz21_2); (try clear hfz21_3); (try clear hfz21_4); (try clear hfz24_0); (try clear hfz24_1); (try clear hfz24_2); (try clear hfz24_3); (try clear hfz24_4); (try clear hfz27_0); (try clear hfz27_1); (try clear hfz27_2); (try clear hfz27_3); (try clear hfz27_4); (try clear p2)
     obtain ⟨x2_2, x11_2, x43_2, rfl, rfl, HA, HK2, HO_11, BK214, HB⟩ := hrel
     cases gk with
     | zero => exact absurd HA.out (by simp [impl_Felt.l0])
     | succ k2 =>
      have H := HA.out
      clear HA
      simp only [impl_Felt.l0] at H
      by_cases c30 : x43_2 < (l3.length : Int)
      ·rw [if_pos c30] at H
       have c30b0 : decide (x43_2 < (l3.length : Int)) = true := decide_eq_true c30
       clear c30
       by_cases c31 : 0 ≤ x43_2
       ·rw [if_pos c31] at H
        have c31b0 : decide (0 ≤ x43_2) = true := decide_eq_true c31
        clear c31
        by_cases c32 : x43_2 < (l3.length : Int)
        ·rw [if_pos c32] at H
         have c32b0 : decide (x43_2 < (l3.length : Int)) = true := decide_eq_true c32
         clear c32
         have HC33 := Aside0.mk H
         clear H
         have p218 : 0 ≤ (x43_2 : Int) := of_decide_eq_true (by first | (with_reducible assumption) | assumption)
         have q218 : x43_2 < (l3.length : Int) := of_decide_eq_true (by first | (with_reducible assumption) | assumption)
         obtain ⟨ad218, e218, hx218_0, hx218_1⟩ := at_T90 HR3.out x43_2 p218 q218
         cases e218
         replace hx218_0 := (HB.out.cell (World.block_lt_of_cell? w _ hx218_0)).trans hx218_0
         replace hx218_1 := (HB.out.cell (World.block_lt_of_cell? w _ hx218_1)).trans hx218_1
         replace p218 := eq_true p218
         replace q218 := eq_true q218
         go_upto_region 7 with (first | ((with_reducible refine gate_dst (N := 13) rfl ?_); (try (refine gate_guard (by rfl) ?_; dsimp only)); refine zx 13 #[.int .i64 0, .int .i64 0] 90 ?_; intro gb219 hg w34 hbox hb; have BK219 := Aside0.mk (hbox); have GW219 := zge HB hg; have GE219 := GW219; have NB214_219 := zl BK214 hg; have NB219_214 := zg BK214 hg; replace BK214 := zb BK214 hb; replace HB := zB HB hb; replace HO_11 := Aside0.mk (Kd.R_below (zr HO_11) hb); clear hb hbox hg; have hnb35 := NB219_214.out; have hnc35 := NB214_219.out; obtain ⟨hcz36_0, hcz36_1, hfz36_0, hfz36_1⟩ := zs2 BK219))
         (try simp only [Act.put, List.setIfInBounds_toArray, List.set_cons_zero, List.set_cons_succ])
         go_cut [57] (fun v57 wc => ∃ (kq : Nat) (x57_32 : Bool), v57 = .bool x57_32 ∧ Aside0 (impl_Felt.j2 kq l1 x2_2 l4 x11_2 x43_2 l3 (l3.length : Int) x43_2 x57_32 a0_0 a0_1 a0_2 a0_3 a0_4 ((rd_T90 l3 x43_2).f0) ((rd_T90 l3 x43_2).f1) = some r) ∧ Aside0 (kq ≤ k2) ∧ Aside0 (Kd.R k34 34 wc w.heap.size (fun _ => True) u11 x11_2) ∧ Aside0 (wc.heap[gb214]? = some (.cells #[.int .i64 a0_0, .int .i64 a0_1, .int .i64 a0_2, .int .i64 a0_3, .int .i64 a0_4] 24 (0, 0))) ∧ Aside0 (wc.heap[gb219]? = some (.cells #[.int .i64 ((rd_T90 l3 x43_2).f0), .int .i64 ((rd_T90 l3 x43_2).f1)] 90 (0, 0))) ∧ Aside0 (Below w.heap.size w wc))
         case first =>
          have H := HC33.out
          clear HC33
          replace H := Option.bind_eq_some_iff.mp H
          obtain ⟨t220, A370, H⟩ := H
          replace H : (if t220 = true then ((impl_in.f ((rd_T90 l3 x43_2).f1) 0 100000).bind fun t221 => (impl_Felt.j2 k2 l1 x2_2 l4 x11_2 x43_2 l3 (l3.length : Int) x43_2 (!t221) a0_0 a0_1 a0_2 a0_3 a0_4 ((rd_T90 l3 x43_2).f0) ((rd_T90 l3 x43_2).f1))) else (impl_Felt.j2 k2 l1 x2_2 l4 x11_2 x43_2 l3 (l3.length : Int) x43_2 true a0_0 a0_1 a0_2 a0_3 a0_4 ((rd_T90 l3 x43_2).f0) ((rd_T90 l3 x43_2).f1))) = some r := H
          have A37 := Aside0.mk A370
          clear A370
          by_cases c38 : t220 = true
          ·subst c38
           have H1 : ((impl_in.f ((rd_T90 l3 x43_2).f1) 0 100000).bind fun t221 => (impl_Felt.j2 k2 l1 x2_2 l4 x11_2 x43_2 l3 (l3.length : Int) x43_2 (!t221) a0_0 a0_1 a0_2 a0_3 a0_4 ((rd_T90 l3 x43_2).f0) ((rd_T90 l3 x43_2).f1))) = some r := by rw [if_pos rfl] at H; exact H
           clear H
           have H := H1
           clear H1
           replace H := Option.bind_eq_some_iff.mp H
           obtain ⟨t221, A390, H⟩ := H
           replace H : (impl_Felt.j2 k2 l1 x2_2 l4 x11_2 x43_2 l3 (l3.length : Int) x43_2 (!t221) a0_0 a0_1 a0_2 a0_3 a0_4 ((rd_T90 l3 x43_2).f0) ((rd_T90 l3 x43_2).f1)) = some r := H
           have A39 := Aside0.mk A390
           clear A390
           have H' := Aside0.mk H
           clear H
           have hnb40 := NB219_214.out
           have hnc40 := NB214_219.out
           obtain ⟨hcz41_0, hcz41_1, hfz41_0, hfz41_1⟩ := zs2 BK219
           go_wp2_with (first | ((with_reducible refine gate_callee (f := 81) rfl ?_); refine zL (some 50) Try.func81 #[.int .i64 ((rd_T90 l3 x43_2).f0), .int .i64 0, .int .i64 100000] ?_; (with_reducible refine (impl_in.calls ((rd_T90 l3 x43_2).f0) 0 100000 true _ A37.out).mono ?_); rintro e w' ⟨rfl, ⟨nd, rfl⟩⟩; refine ⟨_, rfl, ?_⟩) | (go_at_call 81; (with_reducible refine (impl_in.calls ((rd_T90 l3 x43_2).f1) 0 100000 t221 _ A39.out).mono ?_); rintro e w' ⟨rfl, ⟨nd, rfl⟩⟩))
           go_meet
           case rel => exact ⟨_, (!t221), ze, H', ⟨by have := HJ5.out; have := HK2.out; first | omega | exact Nat.le_refl _⟩, ⟨by (with_reducible repeat (first | apply Kd.R_alloc | apply Kd.R_drewN | apply Kd.R_drew)); exact Kd.R_mono (Kd.R_far (p := ⟨gb219, 1, none⟩) (Kd.R_far (p := ⟨gb219, 0, none⟩) (Kd.R_types HO_11.out BK219.out (by decide)) (fun _ hk => hk.2) (.int .i64 ((rd_T90 l3 x43_2).f0))) (fun _ hk => hk.2) (.int .i64 ((rd_T90 l3 x43_2).f1))) (fun _ hk => trivial)⟩, ⟨by (with_reducible repeat (first | refine blk_drewN ?_ _ | refine blk_drew ?_ | refine blk_alloc ?_ _)); refine blk_far ?_ NB214_219.out _; (with_reducible repeat (first | refine blk_drewN ?_ _ | refine blk_drew ?_ | refine blk_alloc ?_ _)); refine blk_far ?_ NB214_219.out _; (with_reducible repeat (first | refine blk_drewN ?_ _ | refine blk_drew ?_ | refine blk_alloc ?_ _)); exact BK214.out⟩, ⟨by (with_reducible repeat (first | refine blk_drewN ?_ _ | refine blk_drew ?_ | refine blk_alloc ?_ _)); refine blk_put (cs := #[.int .i64 ((rd_T90 l3 x43_2).f0), .int .i64 0]) ?_ 1 _ rfl; (with_reducible repeat (first | refine blk_drewN ?_ _ | refine blk_drew ?_ | refine blk_alloc ?_ _)); refine blk_put (cs := #[.int .i64 0, .int .i64 0]) ?_ 0 _ rfl; (with_reducible repeat (first | refine blk_drewN ?_ _ | refine blk_drew ?_ | refine blk_alloc ?_ _)); exact BK219.out⟩, ⟨by repeat (first | (with_reducible first | exact HB.out | apply below_alloc | apply pw_below_drewN | apply below_drew1 | refine below_set ?_ GE214.out | refine below_set ?_ GE219.out) | exact HB.out)⟩⟩
          ·replace c38 := Bool.eq_false_iff.mpr c38
           subst c38
           have H1 : (impl_Felt.j2 k2 l1 x2_2 l4 x11_2 x43_2 l3 (l3.length : Int) x43_2 true a0_0 a0_1 a0_2 a0_3 a0_4 ((rd_T90 l3 x43_2).f0) ((rd_T90 l3 x43_2).f1)) = some r := by rw [if_neg (show ¬ (false = true) by decide)] at H; exact H
           clear H
           have H := H1
           clear H1
           have H' := Aside0.mk H
           clear H
           have hnb42 := NB219_214.out
           have hnc42 := NB214_219.out
           obtain ⟨hcz43_0, hcz43_1, hfz43_0, hfz43_1⟩ := zs2 BK219
           go_wp2_with (first | ((with_reducible refine gate_callee (f := 81) rfl ?_); refine zL (some 50) Try.func81 #[.int .i64 ((rd_T90 l3 x43_2).f0), .int .i64 0, .int .i64 100000] ?_; (with_reducible refine (impl_in.calls ((rd_T90 l3 x43_2).f0) 0 100000 false _ A37.out).mono ?_); rintro e w' ⟨rfl, ⟨nd, rfl⟩⟩; refine ⟨_, rfl, ?_⟩))
           go_meet
           case rel => exact ⟨_, (true), ze, H', ⟨by have := HJ5.out; have := HK2.out; first | omega | exact Nat.le_refl _⟩, ⟨by (with_reducible repeat (first | apply Kd.R_alloc | apply Kd.R_drewN | apply Kd.R_drew)); exact Kd.R_mono (Kd.R_far (p := ⟨gb219, 1, none⟩) (Kd.R_far (p := ⟨gb219, 0, none⟩) (Kd.R_types HO_11.out BK219.out (by decide)) (fun _ hk => hk.2) (.int .i64 ((rd_T90 l3 x43_2).f0))) (fun _ hk => hk.2) (.int .i64 ((rd_T90 l3 x43_2).f1))) (fun _ hk => trivial)⟩, ⟨by (with_reducible repeat (first | refine blk_drewN ?_ _ | refine blk_drew ?_ | refine blk_alloc ?_ _)); refine blk_far ?_ NB214_219.out _; (with_reducible repeat (first | refine blk_drewN ?_ _ | refine blk_drew ?_ | refine blk_alloc ?_ _)); refine blk_far ?_ NB214_219.out _; (with_reducible repeat (first | refine blk_drewN ?_ _ | refine blk_drew ?_ | refine blk_alloc ?_ _)); exact BK214.out⟩, ⟨by (with_reducible repeat (first | refine blk_drewN ?_ _ | refine blk_drew ?_ | refine blk_alloc ?_ _)); refine blk_put (cs := #[.int .i64 ((rd_T90 l3 x43_2).f0), .int .i64 0]) ?_ 1 _ rfl; (with_reducible repeat (first | refine blk_drewN ?_ _ | refine blk_drew ?_ | refine blk_alloc ?_ _)); refine blk_put (cs := #[.int .i64 0, .int .i64 0]) ?_ 0 _ rfl; (with_reducible repeat (first | refine blk_drewN ?_ _ | refine blk_drew ?_ | refine blk_alloc ?_ _)); exact BK219.out⟩, ⟨by repeat (first | (with_reducible first | exact HB.out | apply below_alloc | apply pw_below_drewN | apply below_drew1 | refine below_set ?_ GE214.out | refine below_set ?_ GE219.out) | exact HB.out)⟩⟩
         case rest =>
          clear HC33
          (try clear c1); (try clear c2); (try clear p2); (try clear q2); (try clear hx2); (try clear c3); (try clear c4); (try clear c6); (try clear c8); (try clear c9); (try clear c11); (try clear c13); (try clear c14); (try clear c14b0); (try clear c14b1); (try clear p21); (try clear q21); (try clear hx21); (try clear c29); (try clear c30); (try clear c30b0); (try clear c31); (try clear c31b0); (try clear c32); (try clear c32b0); (try clear c35); (try clear c38); (try clear c40); (try clear c42); (try clear hcz15_0); (try clear hcz15_1); (try clear hcz15_2); (try clear hcz15_3); (try clear hcz15_4); (try clear hcz18_0); (try clear hcz18_1); (try clear hcz18_2); (try clear hcz18_3); (try clear hcz18_4); (try clear hcz21_0); (try clear hcz21_1); (try clear hcz21_2); (try clear hcz21_3); (try clear hcz21_4); (try clear hcz24_0); (try clear hcz24_1); (try clear hcz24_2); (try clear hcz24_3); (try clear hcz24_4); (try clear hcz27_0); (try clear hcz27_1); (try clear hcz27_2); (try clear hcz27_3); (try clear hcz27_4); (try clear hcz36_0); (try clear hcz36_1); (try clear hcz41_0); (try clear hcz41_1); (try clear hcz43_0); (try clear hcz43_1); (try clear hfz15_0); (try clear hfz15_1); (try clear hfz15_2); (try clear hfz15_3); (try clear hfz15_4); (try clear hfz18_0); (try clear hfz18_1); (try clear hfz18_2); (try clear hfz18_3); (try clear hfz18_4); (try clear hfz21_0); (try clear hfz21_1); (try clear hfz21_2); (try clear hfz21_3); (try clear hfz21_4); (try clear hfz24_0); (try clear hfz24_1); (try clear hfz24_2); (try clear hfz24_3); (try clear hfz24_4); (try clear hfz27_0); (try clear hfz27_1); (try clear hfz27_2); (try clear hfz27_3); (try clear hfz27_4); (try clear hfz36_0); (try clear hfz36_1); (try clear hfz41_0); (try clear hfz41_1); (try clear hfz43_0); (try clear hfz43_1); (try clear hx218_0); (try clear hx218_1); (try clear p2); (try clear p218); (try clear q218)
          obtain ⟨kq, x57_32, rfl, HA, HJ32, HO_11, BK214, BK219, HB⟩ := hcut
          cases kq with
          | zero => exact absurd HA.out (by simp [impl_Felt.j2])
          | succ kj32 =>
           have H := HA.out
           clear HA
           simp only [impl_Felt.j2] at H
           by_cases c44 : x57_32 = true
           ·subst c44
            have H1 : (some ([] : List (S34))) = some r := by rw [if_pos rfl] at H; exact H
            clear H
            have H := H1
            clear H1
            obtain rfl := Option.some.inj H
            go_wp2
            go_ret
            exact ⟨_, by first | rfl | (simp [errW_none, errW_some] <;> rfl) | (simp [*, errW_none, errW_some] <;> rfl), by first | exact Kd.R_nil _ _ _ _ _ | exact Kd.N_nil _ _ _ _ _ | exact Kd.V_nil _ _ _ _ _ | exact Kd.Q_nil _ _ _ _ _ | exact Kd.S_nil _ _ _ _ _, by repeat (first | (with_reducible first | exact HB.out | apply below_alloc | apply pw_below_drewN | apply below_drew1 | refine below_set ?_ GE214.out | refine below_set ?_ GE219.out) | exact HB.out)⟩
           ·replace c44 := Bool.eq_false_iff.mpr c44
            subst c44
            have H1 : (if x11_2.length < 8796093022208 then ((some (x11_2 ++ [(⟨1, ((rd_T90 l3 x43_2).f1)⟩ : S34)] : List (S34))).bind fun y222 => (if (wrap64 (x2_2 + ((rd_T90 l3 x43_2).f0))) > 100000000 then (some ([] : List (S34))) else (if 0 ≤ x43_2 then (if x43_2 < (l4.length : Int) then (if (rd l4 x43_2) = 1 then (impl_Felt.l1 kj32 l1 (wrap64 (x2_2 + ((rd_T90 l3 x43_2).f0))) l4 y222 l3 (l3.length : Int) x43_2 l1 (l1.length : Int) 0 a0_0 a0_1 a0_2 a0_3 a0_4) else (impl_Felt.l0 kj32 l1 (wrap64 (x2_2 + ((rd_T90 l3 x43_2).f0))) l4 y222 l3 (l3.length : Int) (wrap64 (x43_2 + 1)) a0_0 a0_1 a0_2 a0_3 a0_4)) else (none)) else (none)))) else (none)) = some r := by rw [if_neg (show ¬ (false = true) by decide)] at H; exact H
            clear H
            have H := H1
            clear H1
            by_cases c45 : x11_2.length < 8796093022208
            ·rw [if_pos c45] at H
             have LMc45 := Aside0.mk c45
             clear c45
             obtain ⟨y222, hy222⟩ : ∃ y_ : List (S34), y_ = (x11_2 ++ [(⟨1, ((rd_T90 l3 x43_2).f1)⟩ : S34)]) := ⟨_, rfl⟩
             replace H : (if (wrap64 (x2_2 + ((rd_T90 l3 x43_2).f0))) > 100000000 then (some ([] : List (S34))) else (if 0 ≤ x43_2 then (if x43_2 < (l4.length : Int) then (if (rd l4 x43_2) = 1 then (impl_Felt.l1 kj32 l1 (wrap64 (x2_2 + ((rd_T90 l3 x43_2).f0))) l4 y222 l3 (l3.length : Int) x43_2 l1 (l1.length : Int) 0 a0_0 a0_1 a0_2 a0_3 a0_4) else (impl_Felt.l0 kj32 l1 (wrap64 (x2_2 + ((rd_T90 l3 x43_2).f0))) l4 y222 l3 (l3.length : Int) (wrap64 (x43_2 + 1)) a0_0 a0_1 a0_2 a0_3 a0_4)) else (none)) else (none))) = some r := by first | (rw [hy222]; with_reducible exact H) | (have H2_ := (Option.bind_some _ _).symm.trans H; rw [hy222]; with_reducible exact H2_) | (have H2_ := (Option.bind_some _ _).symm.trans H; with_reducible exact H2_) | with_reducible exact H | (rw [hy222]; exact H) | exact H
             have Ny222 := Aside0.mk hy222
             clear hy222
             by_cases c46 : (wrap64 (x2_2 + ((rd_T90 l3 x43_2).f0))) > 100000000
             ·rw [if_pos c46] at H
              have c46b0 : decide (100000000 < (wrap64 (x2_2 + ((rd_T90 l3 x43_2).f0)))) = true := decide_eq_true c46
              clear c46
              obtain rfl := Option.some.inj H
              have hnb47 := NB219_214.out
              have hnc47 := NB214_219.out
              obtain ⟨hcz48_0, hcz48_1, hfz48_0, hfz48_1⟩ := zs2 BK219
              go_wp2_with (first | ((with_reducible refine gate_builtin (b := .append) (xs := #[.tmp 58, .tmp 62]) rfl ?_); (try (refine gate_guard (by rfl) ?_; dsimp only)); at_builtin; refine Kd.R_append k34 (w0 := w) w.heap.size rfl (.tmp 58) (.tmp 62) 58 34 (.agg #[(.int .i64 0), (.int .i64 0)]) 16 rfl Try.underlying58 info34 rfl (by decide) (by omega) u11 x11_2 (⟨1, ((rd_T90 l3 x43_2).f1)⟩ : S34) [.int .i64 1, .int .i64 ((rd_T90 l3 x43_2).f1)] (fun _ => True) (fun _ => False) rfl rfl ?aP (fun _ hk => hk.elim) ?aF ?aO ?aB ?aS ?aL ?_; (case aP => exact k34_mkM _ _ _ (⟨1, ((rd_T90 l3 x43_2).f1)⟩ : S34)); (case aB => exact (by repeat (first | (with_reducible first | exact HB.out | apply below_alloc | apply pw_below_drewN | apply below_drew1 | refine below_set ?_ GE214.out | refine below_set ?_ GE219.out) | exact HB.out))); (case aF => exact (fun _ _ => trivial)); (case aO => exact (zr HO_11)); (case aS => exact (below_size (by repeat (first | (with_reducible first | exact HB.out | apply below_alloc | apply pw_below_drewN | apply below_drew1 | refine below_set ?_ GE214.out | refine below_set ?_ GE219.out) | exact HB.out)))); (case aL => have := LMc45.out; omega); intro v223 w49 ho hb hg hat; rw [← Ny222.out] at ho; have n0_ := Aside0.mk (blk_grown (g := gb214) (o := .cells #[.int .i64 a0_0, .int .i64 a0_1, .int .i64 a0_2, .int .i64 a0_3, .int .i64 a0_4] 24 (0, 0)) (zy BK214) hg (Kd.R_ne HO_11.out BK214.out (by decide))); have n1_ := Aside0.mk (blk_grown (g := gb219) (o := .cells #[.int .i64 ((rd_T90 l3 x43_2).f0), .int .i64 ((rd_T90 l3 x43_2).f1)] 90 (0, 0)) (zy BK219) hg (Kd.R_ne HO_11.out BK219.out (by decide))); have n2_ := Aside0.mk (hb); have HO224 := Aside0.mk (ho); clear BK214 BK219 HB; have BK214 := n0_; have BK219 := n1_; have HB := n2_; clear n0_ n1_ n2_ HO_11 ho hb hg hat; obtain ⟨hcz50_0, hcz50_1, hfz50_0, hfz50_1⟩ := zs2 BK219))
              go_ret
              exact ⟨_, by first | rfl | (simp [errW_none, errW_some] <;> rfl) | (simp [*, errW_none, errW_some] <;> rfl), by first | exact Kd.R_nil _ _ _ _ _ | exact Kd.N_nil _ _ _ _ _ | exact Kd.V_nil _ _ _ _ _ | exact Kd.Q_nil _ _ _ _ _ | exact Kd.S_nil _ _ _ _ _, by repeat (first | (with_reducible first | exact HB.out | apply below_alloc | apply pw_below_drewN | apply below_drew1 | refine below_set ?_ GE214.out | refine below_set ?_ GE219.out) | exact HB.out)⟩
             ·rw [if_neg c46] at H
              have c46b0 : decide (100000000 < (wrap64 (x2_2 + ((rd_T90 l3 x43_2).f0)))) = false := decide_eq_false c46
              clear c46
              by_cases c51 : 0 ≤ x43_2
              ·rw [if_pos c51] at H
               have c51b0 : decide (0 ≤ x43_2) = true := decide_eq_true c51
               clear c51
               by_cases c52 : x43_2 < (l4.length : Int)
               ·rw [if_pos c52] at H
                have c52b0 : decide (x43_2 < (l4.length : Int)) = true := decide_eq_true c52
                clear c52
                by_cases c53 : (rd l4 x43_2) = 1
                ·rw [if_pos c53] at H
                 have c53b0 : ((rd l4 x43_2) == 1) = true := beq_iff_eq.mpr c53
                 have c53b1 : ((rd l4 x43_2) != 1) = false := bne_eq_false_iff_eq.mpr c53
                 clear c53
                 have H' := Aside0.mk H
                 clear H
                 have hnb54 := NB219_214.out
                 have hnc54 := NB214_219.out
                 obtain ⟨hcz55_0, hcz55_1, hfz55_0, hfz55_1⟩ := zs2 BK219
                 go_wp2_with (first | ((with_reducible refine gate_builtin (b := .append) (xs := #[.tmp 58, .tmp 62]) rfl ?_); (try (refine gate_guard (by rfl) ?_; dsimp only)); at_builtin; refine Kd.R_append k34 (w0 := w) w.heap.size rfl (.tmp 58) (.tmp 62) 58 34 (.agg #[(.int .i64 0), (.int .i64 0)]) 16 rfl Try.underlying58 info34 rfl (by decide) (by omega) u11 x11_2 (⟨1, ((rd_T90 l3 x43_2).f1)⟩ : S34) [.int .i64 1, .int .i64 ((rd_T90 l3 x43_2).f1)] (fun _ => True) (fun _ => False) rfl rfl ?aP (fun _ hk => hk.elim) ?aF ?aO ?aB ?aS ?aL ?_; (case aP => exact k34_mkM _ _ _ (⟨1, ((rd_T90 l3 x43_2).f1)⟩ : S34)); (case aB => exact (by repeat (first | (with_reducible first | exact HB.out | apply below_alloc | apply pw_below_drewN | apply below_drew1 | refine below_set ?_ GE214.out | refine below_set ?_ GE219.out) | exact HB.out))); (case aF => exact (fun _ _ => trivial)); (case aO => exact (zr HO_11)); (case aS => exact (below_size (by repeat (first | (with_reducible first | exact HB.out | apply below_alloc | apply pw_below_drewN | apply below_drew1 | refine below_set ?_ GE214.out | refine below_set ?_ GE219.out) | exact HB.out)))); (case aL => have := LMc45.out; omega); intro v223 w56 ho hb hg hat; rw [← Ny222.out] at ho; have n0_ := Aside0.mk (blk_grown (g := gb214) (o := .cells #[.int .i64 a0_0, .int .i64 a0_1, .int .i64 a0_2, .int .i64 a0_3, .int .i64 a0_4] 24 (0, 0)) (zy BK214) hg (Kd.R_ne HO_11.out BK214.out (by decide))); have n1_ := Aside0.mk (blk_grown (g := gb219) (o := .cells #[.int .i64 ((rd_T90 l3 x43_2).f0), .int .i64 ((rd_T90 l3 x43_2).f1)] 90 (0, 0)) (zy BK219) hg (Kd.R_ne HO_11.out BK219.out (by decide))); have n2_ := Aside0.mk (hb); have HO224 := Aside0.mk (ho); clear BK214 BK219 HB; have BK214 := n0_; have BK219 := n1_; have HB := n2_; clear n0_ n1_ n2_ HO_11 ho hb hg hat; obtain ⟨hcz57_0, hcz57_1, hfz57_0, hfz57_1⟩ := zs2 BK219; have p225 : 0 ≤ (x43_2 : Int) := of_decide_eq_true (by first | (with_reducible assumption) | assumption); have q225 : x43_2 < (l4.length : Int) := of_decide_eq_true (by first | (with_reducible assumption) | assumption); obtain ⟨ad225, e225, hx225_0⟩ := Kd.at_int HR4.out x43_2 p225 q225; cases e225; replace hx225_0 := (HB.out.cell (World.block_lt_of_cell? w _ hx225_0)).trans hx225_0; replace p225 := eq_true p225; replace q225 := eq_true q225))
                 go_loopg [11, 77] kj32 (fun kq v11 v77 w' => ∃ (x11_4 : List (S34)) (x77_4 : Int), v77 = .int .i64 x77_4 ∧ Aside0 (impl_Felt.l1 kq l1 (wrap64 (x2_2 + ((rd_T90 l3 x43_2).f0))) l4 x11_4 l3 (l3.length : Int) x43_2 l1 (l1.length : Int) x77_4 a0_0 a0_1 a0_2 a0_3 a0_4 = some r) ∧ Aside0 (kq ≤ kj32) ∧ Aside0 (Kd.R k34 34 w' w.heap.size (fun _ => True) v11 x11_4) ∧ Aside0 (w'.heap[gb214]? = some (.cells #[.int .i64 a0_0, .int .i64 a0_1, .int .i64 a0_2, .int .i64 a0_3, .int .i64 a0_4] 24 (0, 0))) ∧ Aside0 (w'.heap[gb219]? = some (.cells #[.int .i64 ((rd_T90 l3 x43_2).f0), .int .i64 ((rd_T90 l3 x43_2).f1)] 90 (0, 0))) ∧ Aside0 (Below w.heap.size w w'))
                 case atStart => exact ⟨(y222), (0), ze, H', ⟨Nat.le_refl _⟩, ⟨zr HO224⟩, ⟨zy BK214⟩, ⟨zy BK219⟩, ⟨by repeat (first | (with_reducible first | exact HB.out | apply below_alloc | apply pw_below_drewN | apply below_drew1 | refine below_set ?_ GE214.out | refine below_set ?_ GE219.out) | exact HB.out)⟩⟩
                 case round =>
                  clear H'
                  (try clear c1); (try clear c2); (try clear p2); (try clear q2); (try clear hx2); (try clear c3); (try clear c4); (try clear c5); (try clear c6); (try clear p6); (try clear c8); (try clear c9); (try clear c11); (try clear c13); (try clear c14); (try clear c14b0); (try clear c14b1); (try clear p21); (try clear q21); (try clear hx21); (try clear p22); (try clear q22); (try clear hx22); (try clear c29); (try clear c30); (try clear c30b0); (try clear c31); (try clear c31b0); (try clear c32); (try clear c32b0); (try clear c35); (try clear c38); (try clear c40); (try clear c42); (try clear c44); (try clear c45); (try clear c46); (try clear c46b0); (try clear c47); (try clear c49); (try clear c51); (try clear c51b0); (try clear c52); (try clear c52b0); (try clear c53); (try clear c53b0); (try clear c53b1); (try clear c54); (try clear hcz15_0); (try clear hcz15_1); (try clear hcz15_2); (try clear hcz15_3); (try clear hcz15_4); (try clear hcz18_0); (try clear hcz18_1); (try clear hcz18_2); (try clear hcz18_3); (try clear hcz18_4); (try clear hcz21_0); (try clear hcz21_1); (try clear hcz21_2); (try clear hcz21_3); (try clear hcz21_4); (try clear hcz24_0); (try clear hcz24_1); (try clear hcz24_2); (try clear hcz24_3); (try clear hcz24_4); (try clear hcz27_0); (try clear hcz27_1); (try clear hcz27_2); (try clear hcz27_3); (try clear hcz27_4); (try clear hcz36_0); (try clear hcz36_1); (try clear hcz41_0); (try clear hcz41_1); (try clear hcz43_0); (try clear hcz43_1); (try clear hcz48_0); (try clear hcz48_1); (try clear hcz50_0); (try clear hcz50_1); (try clear hcz55_0); (try clear hcz55_1); (try clear hcz57_0); (try clear hcz57_1); (try clear hfz15_0); (try clear hfz15_1); (try clear hfz15_2); (try clear hfz15_3); (try clear hfz15_4); (try clear hfz18_0); (try clear hfz18_1); (try clear hfz18_2); (try clear hfz18_3); (try clear hfz18_4); (try clear hfz21_0); (try clear hfz21_1); (try clear hfz21_2); (try clear hfz21_3); (try clear hfz21_4); (try clear hfz24_0); (try clear hfz24_1); (try clear hfz24_2); (try clear hfz24_3); (try clear hfz24_4); (try clear hfz27_0); (try clear hfz27_1); (try clear hfz27_2); (try clear hfz27_3); (try clear hfz27_4); (try clear hfz36_0); (try clear hfz36_1); (try clear hfz41_0); (try clear hfz41_1); (try clear hfz43_0); (try clear hfz43_1); (try clear hfz48_0); (try clear hfz48_1); (try clear hfz50_0); (try clear hfz50_1); (try clear hfz55_0); (try clear hfz55_1); (try clear hfz57_0); (try clear hfz57_1); (try clear hx218_0); (try clear hx218_1); (try clear hx225_0); (try clear p2); (try clear p21); (try clear p218); (try clear p225); (try clear q2); (try clear q21); (try clear q218); (try clear q225)
                  obtain ⟨x11_4, x77_4, rfl, HA, HK4, HO_11, BK214, BK219, HB⟩ := hrel
                  cases gk with
                  | zero => exact absurd HA.out (by simp [impl_Felt.l1])
                  | succ k4 =>
                   have H := HA.out
                   clear HA
                   simp only [impl_Felt.l1] at H
                   by_cases c58 : x77_4 < (l1.length : Int)
                   ·rw [if_pos c58] at H
                    have c58b0 : decide (x77_4 < (l1.length : Int)) = true := decide_eq_true c58
                    clear c58
                    by_cases c59 : 0 ≤ x77_4
                    ·rw [if_pos c59] at H
                     have c59b0 : decide (0 ≤ x77_4) = true := decide_eq_true c59
                     clear c59
                     by_cases c60 : x77_4 < (l1.length : Int)
                     ·rw [if_pos c60] at H
                      have c60b0 : decide (x77_4 < (l1.length : Int)) = true := decide_eq_true c60
                      clear c60
                      replace H := Option.bind_eq_some_iff.mp H
                      obtain ⟨t228, A610, H⟩ := H
                      replace H : (if t228 = true then (if x11_4.length < 8796093022208 then (impl_Felt.l1 k4 l1 (wrap64 (x2_2 + ((rd_T90 l3 x43_2).f0))) l4 (x11_4 ++ [(⟨2, (rd_T37 l1 x77_4).f0⟩ : S34)]) l3 (l3.length : Int) x43_2 l1 (l1.length : Int) (wrap64 (x77_4 + 1)) a0_0 a0_1 a0_2 a0_3 a0_4) else (none)) else (impl_Felt.l1 k4 l1 (wrap64 (x2_2 + ((rd_T90 l3 x43_2).f0))) l4 x11_4 l3 (l3.length : Int) x43_2 l1 (l1.length : Int) (wrap64 (x77_4 + 1)) a0_0 a0_1 a0_2 a0_3 a0_4)) = some r := H
                      have A61 := Aside0.mk A610
                      clear A610
                      by_cases c62 : t228 = true
                      ·subst c62
                       have H1 : (if x11_4.length < 8796093022208 then (impl_Felt.l1 k4 l1 (wrap64 (x2_2 + ((rd_T90 l3 x43_2).f0))) l4 (x11_4 ++ [(⟨2, (rd_T37 l1 x77_4).f0⟩ : S34)]) l3 (l3.length : Int) x43_2 l1 (l1.length : Int) (wrap64 (x77_4 + 1)) a0_0 a0_1 a0_2 a0_3 a0_4) else (none)) = some r := by rw [if_pos rfl] at H; exact H
                       clear H
                       have H := H1
                       clear H1
                       by_cases c63 : x11_4.length < 8796093022208
                       ·rw [if_pos c63] at H
                        have LMc63 := Aside0.mk c63
                        clear c63
                        obtain ⟨y229, hy229⟩ : ∃ y_ : List (S34), y_ = (x11_4 ++ [(⟨2, (rd_T37 l1 x77_4).f0⟩ : S34)]) := ⟨_, rfl⟩
                        replace H : (impl_Felt.l1 k4 l1 (wrap64 (x2_2 + ((rd_T90 l3 x43_2).f0))) l4 y229 l3 (l3.length : Int) x43_2 l1 (l1.length : Int) (wrap64 (x77_4 + 1)) a0_0 a0_1 a0_2 a0_3 a0_4) = some r := by first | (rw [hy229]; with_reducible exact H) | (have H2_ := (Option.bind_some _ _).symm.trans H; rw [hy229]; with_reducible exact H2_) | (have H2_ := (Option.bind_some _ _).symm.trans H; with_reducible exact H2_) | with_reducible exact H | (rw [hy229]; exact H) | exact H
                        have Ny229 := Aside0.mk hy229
                        clear hy229
                        have H' := Aside0.mk H
                        clear H
                        have p226 : 0 ≤ (x77_4 : Int) := of_decide_eq_true (by first | (with_reducible assumption) | assumption)
                        have q226 : x77_4 < (l1.length : Int) := of_decide_eq_true (by first | (with_reducible assumption) | assumption)
                        obtain ⟨ad226, e226, hx226_0, hx226_1⟩ := at_T37 HR1.out x77_4 p226 q226
                        cases e226
                        replace hx226_0 := (HB.out.cell (World.block_lt_of_cell? w _ hx226_0)).trans hx226_0
                        replace hx226_1 := (HB.out.cell (World.block_lt_of_cell? w _ hx226_1)).trans hx226_1
                        replace p226 := eq_true p226
                        replace q226 := eq_true q226
                        go_wp2_with (first | ((with_reducible refine gate_dst (N := 15) rfl ?_); (try (refine gate_guard (by rfl) ?_; dsimp only)); refine zx 15 #[.int .i64 0, .int .i64 0] 37 ?_; intro gb227 hg w64 hbox hb; have BK227 := Aside0.mk (hbox); have GW227 := zge HB hg; have GE227 := GW227; have NB214_227 := zl BK214 hg; have NB227_214 := zg BK214 hg; have NB219_227 := zl BK219 hg; have NB227_219 := zg BK219 hg; replace BK214 := zb BK214 hb; replace BK219 := zb BK219 hb; replace HB := zB HB hb; replace HO_11 := Aside0.mk (Kd.R_below (zr HO_11) hb); clear hb hbox hg; have hnb65 := NB227_214.out; have hnc65 := NB214_227.out; have hnb66 := NB227_219.out; have hnc66 := NB219_227.out; obtain ⟨hcz67_0, hcz67_1, hfz67_0, hfz67_1⟩ := zs2 BK227; have hnb68 := NB214_219.out; have hnc68 := NB219_214.out; obtain ⟨hcz69_0, hcz69_1, hcz69_2, hcz69_3, hcz69_4, hfz69_0, hfz69_1, hfz69_2, hfz69_3, hfz69_4⟩ := zs5 BK214) | ((with_reducible refine gate_callee (f := 81) rfl ?_); refine zL (some 90) Try.func81 #[.int .i64 (wrap64 (((rd_T37 l1 x77_4).f1) - (wrap64 (x2_2 + ((rd_T90 l3 x43_2).f0))))), .int .i64 (wrap64 (-a0_2)), .int .i64 a0_2] ?_; (with_reducible refine (impl_in.calls (wrap64 (((rd_T37 l1 x77_4).f1) - (wrap64 (x2_2 + ((rd_T90 l3 x43_2).f0))))) (wrap64 (-a0_2)) a0_2 true _ A61.out).mono ?_); rintro e w' ⟨rfl, ⟨nd, rfl⟩⟩; refine ⟨_, rfl, ?_⟩) | ((with_reducible refine gate_builtin (b := .append) (xs := #[.tmp 91, .tmp 95]) rfl ?_); (try (refine gate_guard (by rfl) ?_; dsimp only)); at_builtin; refine Kd.R_append k34 (w0 := w) w.heap.size rfl (.tmp 91) (.tmp 95) 58 34 (.agg #[(.int .i64 0), (.int .i64 0)]) 16 rfl Try.underlying58 info34 rfl (by decide) (by omega) u11 x11_4 (⟨2, (rd_T37 l1 x77_4).f0⟩ : S34) [.int .i64 2, .int .i64 ((rd_T37 l1 x77_4).f0)] (fun _ => True) (fun _ => False) rfl (by first | (go_simp; done) | (go_simp; rfl)) ?aP (fun _ hk => hk.elim) ?aF ?aO ?aB ?aS ?aL ?_; (case aP => exact k34_mkM _ _ _ (⟨2, (rd_T37 l1 x77_4).f0⟩ : S34)); (case aB => exact (by repeat (first | (with_reducible first | exact HB.out | apply below_alloc | apply pw_below_drewN | apply below_drew1 | refine below_set ?_ GE214.out | refine below_set ?_ GE219.out | refine below_set ?_ GE227.out) | exact HB.out))); (case aF => exact (fun _ _ => trivial)); (case aO => exact (by (with_reducible repeat (first | apply Kd.R_alloc | apply Kd.R_drewN | apply Kd.R_drew)); exact Kd.R_mono (Kd.R_far (p := ⟨gb227, 1, none⟩) (Kd.R_far (p := ⟨gb227, 0, none⟩) (Kd.R_types HO_11.out BK227.out (by decide)) (fun _ hk => hk.2) (.int .i64 ((rd_T37 l1 x77_4).f0))) (fun _ hk => hk.2) (.int .i64 ((rd_T37 l1 x77_4).f1))) (fun _ hk => trivial))); (case aS => exact (below_size (by repeat (first | (with_reducible first | exact HB.out | apply below_alloc | apply pw_below_drewN | apply below_drew1 | refine below_set ?_ GE214.out | refine below_set ?_ GE219.out | refine below_set ?_ GE227.out) | exact HB.out)))); (case aL => have := LMc63.out; omega); intro v230 w70 ho hb hg hat; rw [← Ny229.out] at ho; have n0_ := Aside0.mk (blk_grown (g := gb214) (o := .cells #[.int .i64 a0_0, .int .i64 a0_1, .int .i64 a0_2, .int .i64 a0_3, .int .i64 a0_4] 24 (0, 0)) (by (with_reducible repeat (first | refine blk_drewN ?_ _ | refine blk_drew ?_ | refine blk_alloc ?_ _)); refine blk_far ?_ NB214_227.out _; (with_reducible repeat (first | refine blk_drewN ?_ _ | refine blk_drew ?_ | refine blk_alloc ?_ _)); refine blk_far ?_ NB214_227.out _; (with_reducible repeat (first | refine blk_drewN ?_ _ | refine blk_drew ?_ | refine blk_alloc ?_ _)); exact BK214.out) hg (Kd.R_ne HO_11.out BK214.out (by decide))); have n1_ := Aside0.mk (blk_grown (g := gb219) (o := .cells #[.int .i64 ((rd_T90 l3 x43_2).f0), .int .i64 ((rd_T90 l3 x43_2).f1)] 90 (0, 0)) (by (with_reducible repeat (first | refine blk_drewN ?_ _ | refine blk_drew ?_ | refine blk_alloc ?_ _)); refine blk_far ?_ NB219_227.out _; (with_reducible repeat (first | refine blk_drewN ?_ _ | refine blk_drew ?_ | refine blk_alloc ?_ _)); refine blk_far ?_ NB219_227.out _; (with_reducible repeat (first | refine blk_drewN ?_ _ | refine blk_drew ?_ | refine blk_alloc ?_ _)); exact BK219.out) hg (Kd.R_ne HO_11.out BK219.out (by decide))); have n2_ := Aside0.mk (blk_grown (g := gb227) (o := .cells #[.int .i64 ((rd_T37 l1 x77_4).f0), .int .i64 ((rd_T37 l1 x77_4).f1)] 37 (0, 0)) (by (with_reducible repeat (first | refine blk_drewN ?_ _ | refine blk_drew ?_ | refine blk_alloc ?_ _)); refine blk_put (cs := #[.int .i64 ((rd_T37 l1 x77_4).f0), .int .i64 0]) ?_ 1 _ rfl; (with_reducible repeat (first | refine blk_drewN ?_ _ | refine blk_drew ?_ | refine blk_alloc ?_ _)); refine blk_put (cs := #[.int .i64 0, .int .i64 0]) ?_ 0 _ rfl; (with_reducible repeat (first | refine blk_drewN ?_ _ | refine blk_drew ?_ | refine blk_alloc ?_ _)); exact BK227.out) hg (Kd.R_ne HO_11.out BK227.out (by decide))); have n3_ := Aside0.mk (hb); have HO231 := Aside0.mk (ho); clear BK214 BK219 BK227 HB; have BK214 := n0_; have BK219 := n1_; have BK227 := n2_; have HB := n3_; clear n0_ n1_ n2_ n3_ HO_11 ho hb hg hat))
                        go_roundg k4
                        case measure => have := HJ5.out; have := HK2.out; have := HJ32.out; have := HK4.out; omega
                        case rel => exact ⟨(y229), (wrap64 (x77_4 + 1)), ze, H', ⟨by have := HJ5.out; have := HK2.out; have := HJ32.out; have := HK4.out; omega⟩, ⟨zr HO231⟩, ⟨zy BK214⟩, ⟨zy BK219⟩, ⟨by repeat (first | (with_reducible first | exact HB.out | apply below_alloc | apply pw_below_drewN | apply below_drew1 | refine below_set ?_ GE214.out | refine below_set ?_ GE219.out | refine below_set ?_ GE227.out) | exact HB.out)⟩⟩
                       ·rw [if_neg c63] at H
                        exact absurd H (by simp)
                      ·replace c62 := Bool.eq_false_iff.mpr c62
                       subst c62
                       have H1 : (impl_Felt.l1 k4 l1 (wrap64 (x2_2 + ((rd_T90 l3 x43_2).f0))) l4 x11_4 l3 (l3.length : Int) x43_2 l1 (l1.length : Int) (wrap64 (x77_4 + 1)) a0_0 a0_1 a0_2 a0_3 a0_4) = some r := by rw [if_neg (show ¬ (false = true) by decide)] at H; exact H
                       clear H
                       have H := H1
                       clear H1
                       have H' := Aside0.mk H
                       clear H
                       have p226 : 0 ≤ (x77_4 : Int) := of_decide_eq_true (by first | (with_reducible assumption) | assumption)
                       have q226 : x77_4 < (l1.length : Int) := of_decide_eq_true (by first | (with_reducible assumption) | assumption)
                       obtain ⟨ad226, e226, hx226_0, hx226_1⟩ := at_T37 HR1.out x77_4 p226 q226
                       cases e226
                       replace hx226_0 := (HB.out.cell (World.block_lt_of_cell? w _ hx226_0)).trans hx226_0
                       replace hx226_1 := (HB.out.cell (World.block_lt_of_cell? w _ hx226_1)).trans hx226_1
                       replace p226 := eq_true p226
                       replace q226 := eq_true q226
                       go_wp2_with (first | ((with_reducible refine gate_dst (N := 15) rfl ?_); (try (refine gate_guard (by rfl) ?_; dsimp only)); refine zx 15 #[.int .i64 0, .int .i64 0] 37 ?_; intro gb227 hg w71 hbox hb; have BK227 := Aside0.mk (hbox); have GW227 := zge HB hg; have GE227 := GW227; have NB214_227 := zl BK214 hg; have NB227_214 := zg BK214 hg; have NB219_227 := zl BK219 hg; have NB227_219 := zg BK219 hg; replace BK214 := zb BK214 hb; replace BK219 := zb BK219 hb; replace HB := zB HB hb; replace HO_11 := Aside0.mk (Kd.R_below (zr HO_11) hb); clear hb hbox hg; have hnb72 := NB227_214.out; have hnc72 := NB214_227.out; have hnb73 := NB227_219.out; have hnc73 := NB219_227.out; obtain ⟨hcz74_0, hcz74_1, hfz74_0, hfz74_1⟩ := zs2 BK227; have hnb75 := NB214_219.out; have hnc75 := NB219_214.out; obtain ⟨hcz76_0, hcz76_1, hcz76_2, hcz76_3, hcz76_4, hfz76_0, hfz76_1, hfz76_2, hfz76_3, hfz76_4⟩ := zs5 BK214) | ((with_reducible refine gate_callee (f := 81) rfl ?_); refine zL (some 90) Try.func81 #[.int .i64 (wrap64 (((rd_T37 l1 x77_4).f1) - (wrap64 (x2_2 + ((rd_T90 l3 x43_2).f0))))), .int .i64 (wrap64 (-a0_2)), .int .i64 a0_2] ?_; (with_reducible refine (impl_in.calls (wrap64 (((rd_T37 l1 x77_4).f1) - (wrap64 (x2_2 + ((rd_T90 l3 x43_2).f0))))) (wrap64 (-a0_2)) a0_2 false _ A61.out).mono ?_); rintro e w' ⟨rfl, ⟨nd, rfl⟩⟩; refine ⟨_, rfl, ?_⟩))
                       go_roundg k4
                       case measure => have := HJ5.out; have := HK2.out; have := HJ32.out; have := HK4.out; omega
                       case rel => exact ⟨(x11_4), (wrap64 (x77_4 + 1)), ze, H', ⟨by have := HJ5.out; have := HK2.out; have := HJ32.out; have := HK4.out; omega⟩, ⟨by (with_reducible repeat (first | apply Kd.R_alloc | apply Kd.R_drewN | apply Kd.R_drew)); exact Kd.R_mono (Kd.R_far (p := ⟨gb227, 1, none⟩) (Kd.R_far (p := ⟨gb227, 0, none⟩) (Kd.R_types HO_11.out BK227.out (by decide)) (fun _ hk => hk.2) (.int .i64 ((rd_T37 l1 x77_4).f0))) (fun _ hk => hk.2) (.int .i64 ((rd_T37 l1 x77_4).f1))) (fun _ hk => trivial)⟩, ⟨by (with_reducible repeat (first | refine blk_drewN ?_ _ | refine blk_drew ?_ | refine blk_alloc ?_ _)); refine blk_far ?_ NB214_227.out _; (with_reducible repeat (first | refine blk_drewN ?_ _ | refine blk_drew ?_ | refine blk_alloc ?_ _)); refine blk_far ?_ NB214_227.out _; (with_reducible repeat (first | refine blk_drewN ?_ _ | refine blk_drew ?_ | refine blk_alloc ?_ _)); exact BK214.out⟩, ⟨by (with_reducible repeat (first | refine blk_drewN ?_ _ | refine blk_drew ?_ | refine blk_alloc ?_ _)); refine blk_far ?_ NB219_227.out _; (with_reducible repeat (first | refine blk_drewN ?_ _ | refine blk_drew ?_ | refine blk_alloc ?_ _)); refine blk_far ?_ NB219_227.out _; (with_reducible repeat (first | refine blk_drewN ?_ _ | refine blk_drew ?_ | refine blk_alloc ?_ _)); exact BK219.out⟩, ⟨by repeat (first | (with_reducible first | exact HB.out | apply below_alloc | apply pw_below_drewN | apply below_drew1 | refine below_set ?_ GE214.out | refine below_set ?_ GE219.out | refine below_set ?_ GE227.out) | exact HB.out)⟩⟩
                     ·rw [if_neg c60] at H
                      exact absurd H (by simp)
                    ·rw [if_neg c59] at H
                     exact absurd H (by simp)
                   ·rw [if_neg c58] at H
                    have c58b0 : decide (x77_4 < (l1.length : Int)) = false := decide_eq_false c58
                    clear c58
                    have H' := Aside0.mk H
                    clear H
                    go_wp2
                    go_roundg k4
                    case measure => have := HJ5.out; have := HK2.out; have := HJ32.out; have := HK4.out; omega
                    case rel => exact ⟨((wrap64 (x2_2 + ((rd_T90 l3 x43_2).f0)))), (x11_4), (wrap64 (x43_2 + 1)), ze, ze, H', ⟨by have := HJ5.out; have := HK2.out; have := HJ32.out; have := HK4.out; omega⟩, ⟨zr HO_11⟩, ⟨zy BK214⟩, ⟨by repeat (first | (with_reducible first | exact HB.out | apply below_alloc | apply pw_below_drewN | apply below_drew1 | refine below_set ?_ GE214.out | refine below_set ?_ GE219.out) | exact HB.out)⟩⟩
                ·rw [if_neg c53] at H
                 have c53b0 : ((rd l4 x43_2) == 1) = false := beq_eq_false_iff_ne.mpr c53
                 have c53b1 : ((rd l4 x43_2) != 1) = true := bne_iff_ne.mpr c53
                 have H' := Aside0.mk H
                 clear H
                 have hnb77 := NB219_214.out
                 have hnc77 := NB214_219.out
                 obtain ⟨hcz78_0, hcz78_1, hfz78_0, hfz78_1⟩ := zs2 BK219
                 go_wp2_with (first | ((with_reducible refine gate_builtin (b := .append) (xs := #[.tmp 58, .tmp 62]) rfl ?_); (try (refine gate_guard (by rfl) ?_; dsimp only)); at_builtin; refine Kd.R_append k34 (w0 := w) w.heap.size rfl (.tmp 58) (.tmp 62) 58 34 (.agg #[(.int .i64 0), (.int .i64 0)]) 16 rfl Try.underlying58 info34 rfl (by decide) (by omega) u11 x11_2 (⟨1, ((rd_T90 l3 x43_2).f1)⟩ : S34) [.int .i64 1, .int .i64 ((rd_T90 l3 x43_2).f1)] (fun _ => True) (fun _ => False) rfl rfl ?aP (fun _ hk => hk.elim) ?aF ?aO ?aB ?aS ?aL ?_; (case aP => exact k34_mkM _ _ _ (⟨1, ((rd_T90 l3 x43_2).f1)⟩ : S34)); (case aB => exact (by repeat (first | (with_reducible first | exact HB.out | apply below_alloc | apply pw_below_drewN | apply below_drew1 | refine below_set ?_ GE214.out | refine below_set ?_ GE219.out) | exact HB.out))); (case aF => exact (fun _ _ => trivial)); (case aO => exact (zr HO_11)); (case aS => exact (below_size (by repeat (first | (with_reducible first | exact HB.out | apply below_alloc | apply pw_below_drewN | apply below_drew1 | refine below_set ?_ GE214.out | refine below_set ?_ GE219.out) | exact HB.out)))); (case aL => have := LMc45.out; omega); intro v223 w79 ho hb hg hat; rw [← Ny222.out] at ho; have n0_ := Aside0.mk (blk_grown (g := gb214) (o := .cells #[.int .i64 a0_0, .int .i64 a0_1, .int .i64 a0_2, .int .i64 a0_3, .int .i64 a0_4] 24 (0, 0)) (zy BK214) hg (Kd.R_ne HO_11.out BK214.out (by decide))); have n1_ := Aside0.mk (blk_grown (g := gb219) (o := .cells #[.int .i64 ((rd_T90 l3 x43_2).f0), .int .i64 ((rd_T90 l3 x43_2).f1)] 90 (0, 0)) (zy BK219) hg (Kd.R_ne HO_11.out BK219.out (by decide))); have n2_ := Aside0.mk (hb); have HO224 := Aside0.mk (ho); clear BK214 BK219 HB; have BK214 := n0_; have BK219 := n1_; have HB := n2_; clear n0_ n1_ n2_ HO_11 ho hb hg hat; obtain ⟨hcz80_0, hcz80_1, hfz80_0, hfz80_1⟩ := zs2 BK219; have p225 : 0 ≤ (x43_2 : Int) := of_decide_eq_true (by first | (with_reducible assumption) | assumption); have q225 : x43_2 < (l4.length : Int) := of_decide_eq_true (by first | (with_reducible assumption) | assumption); obtain ⟨ad225, e225, hx225_0⟩ := Kd.at_int HR4.out x43_2 p225 q225; cases e225; replace hx225_0 := (HB.out.cell (World.block_lt_of_cell? w _ hx225_0)).trans hx225_0; replace p225 := eq_true p225; replace q225 := eq_true q225))
                 go_roundg kj32
                 case measure => have := HJ5.out; have := HK2.out; have := HJ32.out; omega
                 case rel => exact ⟨(wrap64 (x2_2 + ((rd_T90 l3 x43_2).f0))), (y222), (wrap64 (x43_2 + 1)), ze, ze, H', ⟨by have := HJ5.out; have := HK2.out; have := HJ32.out; omega⟩, ⟨zr HO224⟩, ⟨zy BK214⟩, ⟨by repeat (first | (with_reducible first | exact HB.out | apply below_alloc | apply pw_below_drewN | apply below_drew1 | refine below_set ?_ GE214.out | refine below_set ?_ GE219.out) | exact HB.out)⟩⟩
               ·rw [if_neg c52] at H
                exact absurd H (by simp)
              ·rw [if_neg c51] at H
               exact absurd H (by simp)
            ·rw [if_neg c45] at H
             exact absurd H (by simp)
        ·rw [if_neg c32] at H
         exact absurd H (by simp)
       ·rw [if_neg c31] at H
        exact absurd H (by simp)
      ·rw [if_neg c30] at H
       have c30b0 : decide (x43_2 < (l3.length : Int)) = false := decide_eq_false c30
       clear c30
       by_cases c81 : (x11_2.length : Int) > 2000
       ·rw [if_pos c81] at H
        have c81b0 : decide (2000 < (x11_2.length : Int)) = true := decide_eq_true c81
        have c81b1 : decide (2000 < x11_2.length) = true := decide_eq_true (by omega)
        clear c81
        obtain rfl := Option.some.inj H
        obtain ⟨Ao82, co82, eo82⟩ := Kd.R_slice HO_11.out
        subst eo82
        go_wp2
        go_ret
        exact ⟨_, by first | rfl | (simp [errW_none, errW_some] <;> rfl) | (simp [*, errW_none, errW_some] <;> rfl), by first | exact Kd.R_nil _ _ _ _ _ | exact Kd.N_nil _ _ _ _ _ | exact Kd.V_nil _ _ _ _ _ | exact Kd.Q_nil _ _ _ _ _ | exact Kd.S_nil _ _ _ _ _, by repeat (first | (with_reducible first | exact HB.out | apply below_alloc | apply pw_below_drewN | apply below_drew1 | refine below_set ?_ GE214.out) | exact HB.out)⟩
       ·rw [if_neg c81] at H
        have c81b0 : decide (2000 < (x11_2.length : Int)) = false := decide_eq_false c81
        have c81b1 : decide (2000 < x11_2.length) = false := decide_eq_false (by omega)
        clear c81
        obtain rfl := Option.some.inj H
        obtain ⟨Ao83, co83, eo83⟩ := Kd.R_slice HO_11.out
        subst eo83
        go_wp2
        go_ret
        exact ⟨_, by first | rfl | (simp [errW_none, errW_some] <;> rfl) | (simp [*, errW_none, errW_some] <;> rfl), by (with_reducible repeat (first | apply Kd.R_alloc | apply Kd.R_drewN | apply Kd.R_drew)); exact HO_11.out, by repeat (first | (with_reducible first | exact HB.out | apply below_alloc | apply pw_below_drewN | apply below_drew1 | refine below_set ?_ GE214.out) | exact HB.out)⟩

end Go.Proofs.Ytommdabkkgcgbaa.QFnTrue
