-- Written by a program of this session (wip/tools/turnprint.py over the kit's print), for this claim: functions as plain Lean and their contracts.
import Derived.Test.YtommdabkkgcgbaaQFnTruex0
import Derived.Test.YtommdabkkgcgbaaQFnTruex6
import Derived.Test.YtommdabkkgcgbaaQFnTruex7
namespace Go.Proofs.Ytommdabkkgcgbaa.QFnTrue
open Go.RowKit Go.Proofs.YtommdabkkgcgbaaW.PrintWords Go.Proofs.YtommdabkkgcgbaaW.PrintLast Go.Proofs.YtommdabkkgcgbaaW.PrintMore
attribute [local go_sem] max2_int min2_int max_two min_two max_three min_three max_four min_four   -- for this text's walks alone
set_option linter.unusedVariables false
set_option linter.unusedSimpArgs false

/-! ### spec_Felt: function 46 -/
mutual
def spec_Felt.j0 : Nat → List (S37) → Int → List (S90) → List Int → Bool → Int → Int → Int → Int → Int → Option ((List (S34)))
 | 0, _, _, _, _, _, _, _, _, _, _ => none
 | k + 1, x1, x2, x3, x4, x40, x198000, x198001, x198002, x198003, x198004 => if x40 = true then (some ([] : List (S34))) else (spec_Felt.l0 k x1 x2 x4 ([] : List (S34)) x3 (x3.length : Int) 0 x198000 x198001 x198002 x198003 x198004)
def spec_Felt.l0 : Nat → List (S37) → Int → List Int → List (S34) → List (S90) → Int → Int → Int → Int → Int → Int → Int → Option ((List (S34)))
 | 0, _, _, _, _, _, _, _, _, _, _, _, _ => none
 | k + 1, x1, x2, x4, x11, x41, x42, x43, x198000, x198001, x198002, x198003, x198004 => if x43 < x42 then (if 0 ≤ x43 then (if x43 < (x41.length : Int) then ((spec_l4true.f ((rd_T90 x41 x43).f0) ((rd_T90 x41 x43).f1)).bind fun t203 => (if t203 = true then (if (wrap64 (x2 + ((rd_T90 x41 x43).f0))) > 100000000 then (some ([] : List (S34))) else (if x11.length < 8796093022208 then (spec_Felt.l1 k x1 (wrap64 (x2 + ((rd_T90 x41 x43).f0))) x4 (x11 ++ [(⟨1, (rd_T90 x41 x43).f1⟩ : S34)]) x43 x41 x42 x43 x1 (x1.length : Int) 0 x198000 x198001 x198002 x198003 x198004) else (none))) else (some ([] : List (S34))))) else (none)) else (none)) else (if (x11.length : Int) > 2000 then (some ([] : List (S34))) else (some x11))
def spec_Felt.l1 : Nat → List (S37) → Int → List Int → List (S34) → Int → List (S90) → Int → Int → List (S37) → Int → Int → Int → Int → Int → Int → Int → Option ((List (S34)))
 | 0, _, _, _, _, _, _, _, _, _, _, _, _, _, _, _, _ => none
 | k + 1, x1, x2, x4, x11, x12, x41, x42, x43, x63, x64, x65, x198000, x198001, x198002, x198003, x198004 => if x65 < x64 then (if 0 ≤ x65 then (if x65 < (x63.length : Int) then (if 0 ≤ x12 then (if x12 < (x4.length : Int) then (if (rd x4 x12) = 1 then ((spec_l1in.f x2 (wrap64 (((rd_T37 x63 x65).f1) - x198002)) (wrap64 (((rd_T37 x63 x65).f1) + x198002))).bind fun t210 => (if t210 = true then (if x11.length < 8796093022208 then (spec_Felt.l1 k x1 x2 x4 (x11 ++ [(⟨2, (rd_T37 x63 x65).f0⟩ : S34)]) x12 x41 x42 x43 x63 x64 (wrap64 (x65 + 1)) x198000 x198001 x198002 x198003 x198004) else (none)) else (spec_Felt.l1 k x1 x2 x4 x11 x12 x41 x42 x43 x63 x64 (wrap64 (x65 + 1)) x198000 x198001 x198002 x198003 x198004))) else (spec_Felt.l1 k x1 x2 x4 x11 x12 x41 x42 x43 x63 x64 (wrap64 (x65 + 1)) x198000 x198001 x198002 x198003 x198004)) else (none)) else (none)) else (none)) else (none)) else (spec_Felt.l0 k x1 x2 x4 x11 x41 x42 (wrap64 (x43 + 1)) x198000 x198001 x198002 x198003 x198004)
end
def spec_Felt.f (k : Nat) (a0_0 : Int) (a0_1 : Int) (a0_2 : Int) (a0_3 : Int) (a0_4 : Int) (l1 : List (S37)) (a2 : Int) (l3 : List (S90)) (l4 : List Int) : Option ((List (S34))) := (spec_RulesOk.f a0_0 a0_1 a0_2 a0_3 a0_4).bind fun t198 => (if t198 = true then ((spec_MarksOk.f k l1).bind fun t199 => (if t199 = true then ((spec_l1in.f a2 0 100000000).bind fun t200 => (if t200 = true then (if (l3.length : Int) > 2000 then (spec_Felt.j0 k l1 a2 l3 l4 true a0_0 a0_1 a0_2 a0_3 a0_4) else (spec_Felt.j0 k l1 a2 l3 l4 ((l4.length : Int) != (l3.length : Int)) a0_0 a0_1 a0_2 a0_3 a0_4)) else (spec_Felt.j0 k l1 a2 l3 l4 true a0_0 a0_1 a0_2 a0_3 a0_4))) else (spec_Felt.j0 k l1 a2 l3 l4 true a0_0 a0_1 a0_2 a0_3 a0_4))) else (spec_Felt.j0 k l1 a2 l3 l4 true a0_0 a0_1 a0_2 a0_3 a0_4))
theorem spec_Felt.mono_l : ∀ k, (∀ y0 y1 y2 y3 y4 y5 y6 y7 y8 y9, LeO (spec_Felt.j0 k y0 y1 y2 y3 y4 y5 y6 y7 y8 y9) (spec_Felt.j0 (k + 1) y0 y1 y2 y3 y4 y5 y6 y7 y8 y9)) ∧ (∀ y0 y1 y2 y3 y4 y5 y6 y7 y8 y9 y10 y11, LeO (spec_Felt.l0 k y0 y1 y2 y3 y4 y5 y6 y7 y8 y9 y10 y11) (spec_Felt.l0 (k + 1) y0 y1 y2 y3 y4 y5 y6 y7 y8 y9 y10 y11)) ∧ (∀ y0 y1 y2 y3 y4 y5 y6 y7 y8 y9 y10 y11 y12 y13 y14 y15, LeO (spec_Felt.l1 k y0 y1 y2 y3 y4 y5 y6 y7 y8 y9 y10 y11 y12 y13 y14 y15) (spec_Felt.l1 (k + 1) y0 y1 y2 y3 y4 y5 y6 y7 y8 y9 y10 y11 y12 y13 y14 y15))
 | 0 => ⟨fun _ _ _ _ _ _ _ _ _ _ r h => by simp [spec_Felt.j0] at h, fun _ _ _ _ _ _ _ _ _ _ _ _ r h => by simp [spec_Felt.l0] at h, fun _ _ _ _ _ _ _ _ _ _ _ _ _ _ _ _ r h => by simp [spec_Felt.l1] at h⟩
 | k + 1 => by
  obtain ⟨ih0, ih1, ih2⟩ := spec_Felt.mono_l k
  refine ⟨?_, ?_, ?_⟩
  ·intro y0 y1 y2 y3 y4 y5 y6 y7 y8 y9
   unfold spec_Felt.j0
   repeat' first
   | (with_reducible exact ih0 _ _ _ _ _ _ _ _ _ _)
   | (with_reducible exact ih1 _ _ _ _ _ _ _ _ _ _ _ _)
   | (with_reducible exact ih2 _ _ _ _ _ _ _ _ _ _ _ _ _ _ _ _)
   | (with_reducible exact spec_MarksOk.mono _ _)
   | (with_reducible exact LeO.refl _)
   | (with_reducible exact LeO.none _)
   | (with_reducible refine LeO.ite ?_ ?_)
   | (with_reducible refine LeO.bind ?_ (fun _ => ?_))
   | exact ih0 _ _ _ _ _ _ _ _ _ _
   | exact ih1 _ _ _ _ _ _ _ _ _ _ _ _
   | exact ih2 _ _ _ _ _ _ _ _ _ _ _ _ _ _ _ _
   | exact spec_MarksOk.mono _ _
   | exact LeO.none _
   | refine LeO.ite ?_ ?_
   | refine LeO.bind ?_ (fun _ => ?_)
  ·intro y0 y1 y2 y3 y4 y5 y6 y7 y8 y9 y10 y11
   unfold spec_Felt.l0
   repeat' first
   | (with_reducible exact ih0 _ _ _ _ _ _ _ _ _ _)
   | (with_reducible exact ih1 _ _ _ _ _ _ _ _ _ _ _ _)
   | (with_reducible exact ih2 _ _ _ _ _ _ _ _ _ _ _ _ _ _ _ _)
   | (with_reducible exact spec_MarksOk.mono _ _)
   | (with_reducible exact LeO.refl _)
   | (with_reducible exact LeO.none _)
   | (with_reducible refine LeO.ite ?_ ?_)
   | (with_reducible refine LeO.bind ?_ (fun _ => ?_))
   | exact ih0 _ _ _ _ _ _ _ _ _ _
   | exact ih1 _ _ _ _ _ _ _ _ _ _ _ _
   | exact ih2 _ _ _ _ _ _ _ _ _ _ _ _ _ _ _ _
   | exact spec_MarksOk.mono _ _
   | exact LeO.none _
   | refine LeO.ite ?_ ?_
   | refine LeO.bind ?_ (fun _ => ?_)
  ·intro y0 y1 y2 y3 y4 y5 y6 y7 y8 y9 y10 y11 y12 y13 y14 y15
   unfold spec_Felt.l1
   repeat' first
   | (with_reducible exact ih0 _ _ _ _ _ _ _ _ _ _)
   | (with_reducible exact ih1 _ _ _ _ _ _ _ _ _ _ _ _)
   | (with_reducible exact ih2 _ _ _ _ _ _ _ _ _ _ _ _ _ _ _ _)
   | (with_reducible exact spec_MarksOk.mono _ _)
   | (with_reducible exact LeO.refl _)
   | (with_reducible exact LeO.none _)
   | (with_reducible refine LeO.ite ?_ ?_)
   | (with_reducible refine LeO.bind ?_ (fun _ => ?_))
   | exact ih0 _ _ _ _ _ _ _ _ _ _
   | exact ih1 _ _ _ _ _ _ _ _ _ _ _ _
   | exact ih2 _ _ _ _ _ _ _ _ _ _ _ _ _ _ _ _
   | exact spec_MarksOk.mono _ _
   | exact LeO.none _
   | refine LeO.ite ?_ ?_
   | refine LeO.bind ?_ (fun _ => ?_)
theorem spec_Felt.mono : ∀ a0 a1 a2 a3 a4 a5 a6 a7 a8 k, LeO (spec_Felt.f k a0 a1 a2 a3 a4 a5 a6 a7 a8) (spec_Felt.f (k + 1) a0 a1 a2 a3 a4 a5 a6 a7 a8) := by
 intro a0 a1 a2 a3 a4 a5 a6 a7 a8 k
 obtain ⟨ih0, ih1, ih2⟩ := spec_Felt.mono_l k
 unfold spec_Felt.f
 repeat' first
   | (with_reducible exact ih0 _ _ _ _ _ _ _ _ _ _)
   | (with_reducible exact ih1 _ _ _ _ _ _ _ _ _ _ _ _)
   | (with_reducible exact ih2 _ _ _ _ _ _ _ _ _ _ _ _ _ _ _ _)
   | (with_reducible exact spec_MarksOk.mono _ _)
   | (with_reducible exact LeO.refl _)
   | (with_reducible exact LeO.none _)
   | (with_reducible refine LeO.ite ?_ ?_)
   | (with_reducible refine LeO.bind ?_ (fun _ => ?_))
   | exact ih0 _ _ _ _ _ _ _ _ _ _
   | exact ih1 _ _ _ _ _ _ _ _ _ _ _ _
   | exact ih2 _ _ _ _ _ _ _ _ _ _ _ _ _ _ _ _
   | exact spec_MarksOk.mono _ _
   | exact LeO.none _
   | refine LeO.ite ?_ ?_
   | refine LeO.bind ?_ (fun _ => ?_)
set_option maxHeartbeats 8000000 in
set_option maxRecDepth 100000 in
theorem spec_Felt.calls (k : Nat) (a0_0 : Int) (a0_1 : Int) (a0_2 : Int) (a0_3 : Int) (a0_4 : Int) (A1 : Option Addr) (c1 : Nat) (l1 : List (S37)) (a2 : Int) (A3 : Option Addr) (c3 : Nat) (l3 : List (S90)) (A4 : Option Addr) (c4 : Nat) (l4 : List Int) (r : List (S34)) (w : World) (hr1 : Kd.C k37 w A1 l1.length l1) (hc1 : l1.length ≤ c1) (hr3 : Kd.C k90 w A3 l3.length l3) (hc3 : l3.length ≤ c3) (hr4 : Kd.C (Kd.int .i64) w A4 l4.length l4) (hc4 : l4.length ≤ c4) (h : spec_Felt.f k a0_0 a0_1 a0_2 a0_3 a0_4 l1 a2 l3 l4 = some r) :
  Calls Try.prog 46 #[.agg #[.int .i64 a0_0, .int .i64 a0_1, .int .i64 a0_2, .int .i64 a0_3, .int .i64 a0_4], .slice A1 l1.length c1, .int .i64 a2, .slice A3 l3.length c3, .slice A4 l4.length c4] w fun e w' => ∃ v0_ : Value, e = .returned (v0_) ∧ Kd.R k34 34 w' w.heap.size (fun _ => True) v0_ r ∧ Below w.heap.size w w' := by
 have hu24 := Try.underlying24
 have hu90 := Try.underlying90
 have hu34 := Try.underlying34
 have hu37 := Try.underlying37
 have HR1 := Aside0.mk hr1
 have HC1 := Aside0.mk hc1
 clear hr1 hc1
 have HR3 := Aside0.mk hr3
 have HC3 := Aside0.mk hc3
 clear hr3 hc3
 have HR4 := Aside0.mk hr4
 have HC4 := Aside0.mk hc4
 clear hr4 hc4
 have HB := Aside0.mk (Below.refl w.heap.size w)
 have H : ((spec_RulesOk.f a0_0 a0_1 a0_2 a0_3 a0_4).bind fun t198 => (if t198 = true then ((spec_MarksOk.f k l1).bind fun t199 => (if t199 = true then ((spec_l1in.f a2 0 100000000).bind fun t200 => (if t200 = true then (if (l3.length : Int) > 2000 then (spec_Felt.j0 k l1 a2 l3 l4 true a0_0 a0_1 a0_2 a0_3 a0_4) else (spec_Felt.j0 k l1 a2 l3 l4 ((l4.length : Int) != (l3.length : Int)) a0_0 a0_1 a0_2 a0_3 a0_4)) else (spec_Felt.j0 k l1 a2 l3 l4 true a0_0 a0_1 a0_2 a0_3 a0_4))) else (spec_Felt.j0 k l1 a2 l3 l4 true a0_0 a0_1 a0_2 a0_3 a0_4))) else (spec_Felt.j0 k l1 a2 l3 l4 true a0_0 a0_1 a0_2 a0_3 a0_4))) = some r := h
 clear h
 have HC6 := Aside0.mk H
 clear H
 go_enter Try.func46, Try.ntmps46
 go_upto_region 1 with (first | ((with_reducible refine gate_dst (N := 5) rfl ?_); (try (refine gate_guard (by rfl) ?_; dsimp only)); refine zx 5 #[.int .i64 a0_0, .int .i64 a0_1, .int .i64 a0_2, .int .i64 a0_3, .int .i64 a0_4] 24 ?_; intro gb197 hg w7 hbox hb; have BK197 := Aside0.mk (hbox); have GW197 := zge HB hg; have GE197 := GW197; replace HB := zB HB hb; clear hb hbox hg))
 (try simp only [Act.put, List.setIfInBounds_toArray, List.set_cons_zero, List.set_cons_succ])
 go_cut [40] (fun v40 wc => ∃ (kq : Nat) (x40_5 : Bool), v40 = .bool x40_5 ∧ Aside0 (spec_Felt.j0 kq l1 a2 l3 l4 x40_5 a0_0 a0_1 a0_2 a0_3 a0_4 = some r) ∧ Aside0 (kq ≤ k) ∧ Aside0 (wc.heap[gb197]? = some (.cells #[.int .i64 a0_0, .int .i64 a0_1, .int .i64 a0_2, .int .i64 a0_3, .int .i64 a0_4] 24 (0, 0))) ∧ Aside0 (Below w.heap.size w wc))
 case first =>
  have H := HC6.out
  clear HC6
  replace H := Option.bind_eq_some_iff.mp H
  obtain ⟨t198, A80, H⟩ := H
  replace H : (if t198 = true then ((spec_MarksOk.f k l1).bind fun t199 => (if t199 = true then ((spec_l1in.f a2 0 100000000).bind fun t200 => (if t200 = true then (if (l3.length : Int) > 2000 then (spec_Felt.j0 k l1 a2 l3 l4 true a0_0 a0_1 a0_2 a0_3 a0_4) else (spec_Felt.j0 k l1 a2 l3 l4 ((l4.length : Int) != (l3.length : Int)) a0_0 a0_1 a0_2 a0_3 a0_4)) else (spec_Felt.j0 k l1 a2 l3 l4 true a0_0 a0_1 a0_2 a0_3 a0_4))) else (spec_Felt.j0 k l1 a2 l3 l4 true a0_0 a0_1 a0_2 a0_3 a0_4))) else (spec_Felt.j0 k l1 a2 l3 l4 true a0_0 a0_1 a0_2 a0_3 a0_4)) = some r := H
  have A8 := Aside0.mk A80
  clear A80
  by_cases c9 : t198 = true
  ·subst c9
   have H1 : ((spec_MarksOk.f k l1).bind fun t199 => (if t199 = true then ((spec_l1in.f a2 0 100000000).bind fun t200 => (if t200 = true then (if (l3.length : Int) > 2000 then (spec_Felt.j0 k l1 a2 l3 l4 true a0_0 a0_1 a0_2 a0_3 a0_4) else (spec_Felt.j0 k l1 a2 l3 l4 ((l4.length : Int) != (l3.length : Int)) a0_0 a0_1 a0_2 a0_3 a0_4)) else (spec_Felt.j0 k l1 a2 l3 l4 true a0_0 a0_1 a0_2 a0_3 a0_4))) else (spec_Felt.j0 k l1 a2 l3 l4 true a0_0 a0_1 a0_2 a0_3 a0_4))) = some r := by rw [if_pos rfl] at H; exact H
   clear H
   have H := H1
   clear H1
   replace H := Option.bind_eq_some_iff.mp H
   obtain ⟨t199, A100, H⟩ := H
   replace H : (if t199 = true then ((spec_l1in.f a2 0 100000000).bind fun t200 => (if t200 = true then (if (l3.length : Int) > 2000 then (spec_Felt.j0 k l1 a2 l3 l4 true a0_0 a0_1 a0_2 a0_3 a0_4) else (spec_Felt.j0 k l1 a2 l3 l4 ((l4.length : Int) != (l3.length : Int)) a0_0 a0_1 a0_2 a0_3 a0_4)) else (spec_Felt.j0 k l1 a2 l3 l4 true a0_0 a0_1 a0_2 a0_3 a0_4))) else (spec_Felt.j0 k l1 a2 l3 l4 true a0_0 a0_1 a0_2 a0_3 a0_4)) = some r := H
   have A10 := Aside0.mk A100
   clear A100
   by_cases c11 : t199 = true
   ·subst c11
    have H1 : ((spec_l1in.f a2 0 100000000).bind fun t200 => (if t200 = true then (if (l3.length : Int) > 2000 then (spec_Felt.j0 k l1 a2 l3 l4 true a0_0 a0_1 a0_2 a0_3 a0_4) else (spec_Felt.j0 k l1 a2 l3 l4 ((l4.length : Int) != (l3.length : Int)) a0_0 a0_1 a0_2 a0_3 a0_4)) else (spec_Felt.j0 k l1 a2 l3 l4 true a0_0 a0_1 a0_2 a0_3 a0_4))) = some r := by rw [if_pos rfl] at H; exact H
    clear H
    have H := H1
    clear H1
    replace H := Option.bind_eq_some_iff.mp H
    obtain ⟨t200, A120, H⟩ := H
    replace H : (if t200 = true then (if (l3.length : Int) > 2000 then (spec_Felt.j0 k l1 a2 l3 l4 true a0_0 a0_1 a0_2 a0_3 a0_4) else (spec_Felt.j0 k l1 a2 l3 l4 ((l4.length : Int) != (l3.length : Int)) a0_0 a0_1 a0_2 a0_3 a0_4)) else (spec_Felt.j0 k l1 a2 l3 l4 true a0_0 a0_1 a0_2 a0_3 a0_4)) = some r := H
    have A12 := Aside0.mk A120
    clear A120
    by_cases c13 : t200 = true
    ·subst c13
     have H1 : (if (l3.length : Int) > 2000 then (spec_Felt.j0 k l1 a2 l3 l4 true a0_0 a0_1 a0_2 a0_3 a0_4) else (spec_Felt.j0 k l1 a2 l3 l4 ((l4.length : Int) != (l3.length : Int)) a0_0 a0_1 a0_2 a0_3 a0_4)) = some r := by rw [if_pos rfl] at H; exact H
     clear H
     have H := H1
     clear H1
     by_cases c14 : (l3.length : Int) > 2000
     ·rw [if_pos c14] at H
      have c14b0 : decide (2000 < (l3.length : Int)) = true := decide_eq_true c14
      have c14b1 : decide (2000 < l3.length) = true := decide_eq_true (by omega)
      clear c14
      (first | rw [c14b0] | (simp only [i64_w, i32_w]; rw [c14b0]) | skip)
      have H' := Aside0.mk H
      clear H
      obtain ⟨hcz15_0, hcz15_1, hcz15_2, hcz15_3, hcz15_4, hfz15_0, hfz15_1, hfz15_2, hfz15_3, hfz15_4⟩ := zs5 BK197
      go_wp2_with (first | ((with_reducible refine gate_callee (f := 67) rfl ?_); refine zL (some 17) Try.func67 #[.agg #[.int .i64 a0_0, .int .i64 a0_1, .int .i64 a0_2, .int .i64 a0_3, .int .i64 a0_4]] ?_; (with_reducible refine (spec_RulesOk.calls a0_0 a0_1 a0_2 a0_3 a0_4 true _ A8.out).mono ?_); rintro e w16 ⟨rfl, hb⟩; refine ⟨_, rfl, ?_⟩; replace BK197 := zb BK197 hb; replace HB := zB HB hb; (try clear hb)) | (go_at_call 36; (with_reducible refine (spec_MarksOk.calls k _ _ l1 true _ ?side1 ?side2 A10.out).mono ?_); (case side1 => repeat (first | exact (Kd.C_below HR1.out HB.out) | (with_reducible refine Kd.C_alloc ?_ _) | (with_reducible refine Kd.C_drewN ?_ _) | (with_reducible refine Kd.C_drew ?_))); (case side2 => exact HC1.out); rintro e w17 ⟨rfl, hb⟩; replace BK197 := zb BK197 hb; replace HB := zB HB hb; (try clear hb)) | (go_at_call 80; (with_reducible refine (spec_l1in.calls a2 0 100000000 true _ A12.out).mono ?_); rintro e w' ⟨rfl, ⟨nd, rfl⟩⟩))
      go_meet
      case rel => exact ⟨_, (true), ze, H', ⟨by first | omega | exact Nat.le_refl _⟩, ⟨zy BK197⟩, ⟨by repeat (first | (with_reducible first | exact HB.out | apply below_alloc | apply pw_below_drewN | apply below_drew1 | refine below_set ?_ GE197.out) | exact HB.out)⟩⟩
     ·rw [if_neg c14] at H
      have c14b0 : decide (2000 < (l3.length : Int)) = false := decide_eq_false c14
      have c14b1 : decide (2000 < l3.length) = false := decide_eq_false (by omega)
      clear c14
      (first | rw [c14b0] | (simp only [i64_w, i32_w]; rw [c14b0]) | skip)
      have H' := Aside0.mk H
      clear H
      obtain ⟨hcz18_0, hcz18_1, hcz18_2, hcz18_3, hcz18_4, hfz18_0, hfz18_1, hfz18_2, hfz18_3, hfz18_4⟩ := zs5 BK197
      go_wp2_with (first | ((with_reducible refine gate_callee (f := 67) rfl ?_); refine zL (some 17) Try.func67 #[.agg #[.int .i64 a0_0, .int .i64 a0_1, .int .i64 a0_2, .int .i64 a0_3, .int .i64 a0_4]] ?_; (with_reducible refine (spec_RulesOk.calls a0_0 a0_1 a0_2 a0_3 a0_4 true _ A8.out).mono ?_); rintro e w19 ⟨rfl, hb⟩; refine ⟨_, rfl, ?_⟩; replace BK197 := zb BK197 hb; replace HB := zB HB hb; (try clear hb)) | (go_at_call 36; (with_reducible refine (spec_MarksOk.calls k _ _ l1 true _ ?side1 ?side2 A10.out).mono ?_); (case side1 => repeat (first | exact (Kd.C_below HR1.out HB.out) | (with_reducible refine Kd.C_alloc ?_ _) | (with_reducible refine Kd.C_drewN ?_ _) | (with_reducible refine Kd.C_drew ?_))); (case side2 => exact HC1.out); rintro e w20 ⟨rfl, hb⟩; replace BK197 := zb BK197 hb; replace HB := zB HB hb; (try clear hb)) | (go_at_call 80; (with_reducible refine (spec_l1in.calls a2 0 100000000 true _ A12.out).mono ?_); rintro e w' ⟨rfl, ⟨nd, rfl⟩⟩))
      go_meet
      case rel => exact ⟨_, (((l4.length : Int) != (l3.length : Int))), ze, H', ⟨by first | omega | exact Nat.le_refl _⟩, ⟨zy BK197⟩, ⟨by repeat (first | (with_reducible first | exact HB.out | apply below_alloc | apply pw_below_drewN | apply below_drew1 | refine below_set ?_ GE197.out) | exact HB.out)⟩⟩
    ·replace c13 := Bool.eq_false_iff.mpr c13
     subst c13
     have H1 : (spec_Felt.j0 k l1 a2 l3 l4 true a0_0 a0_1 a0_2 a0_3 a0_4) = some r := by rw [if_neg (show ¬ (false = true) by decide)] at H; exact H
     clear H
     have H := H1
     clear H1
     have H' := Aside0.mk H
     clear H
     obtain ⟨hcz21_0, hcz21_1, hcz21_2, hcz21_3, hcz21_4, hfz21_0, hfz21_1, hfz21_2, hfz21_3, hfz21_4⟩ := zs5 BK197
     go_wp2_with (first | ((with_reducible refine gate_callee (f := 67) rfl ?_); refine zL (some 17) Try.func67 #[.agg #[.int .i64 a0_0, .int .i64 a0_1, .int .i64 a0_2, .int .i64 a0_3, .int .i64 a0_4]] ?_; (with_reducible refine (spec_RulesOk.calls a0_0 a0_1 a0_2 a0_3 a0_4 true _ A8.out).mono ?_); rintro e w22 ⟨rfl, hb⟩; refine ⟨_, rfl, ?_⟩; replace BK197 := zb BK197 hb; replace HB := zB HB hb; (try clear hb)) | (go_at_call 36; (with_reducible refine (spec_MarksOk.calls k _ _ l1 true _ ?side1 ?side2 A10.out).mono ?_); (case side1 => repeat (first | exact (Kd.C_below HR1.out HB.out) | (with_reducible refine Kd.C_alloc ?_ _) | (with_reducible refine Kd.C_drewN ?_ _) | (with_reducible refine Kd.C_drew ?_))); (case side2 => exact HC1.out); rintro e w23 ⟨rfl, hb⟩; replace BK197 := zb BK197 hb; replace HB := zB HB hb; (try clear hb)) | (go_at_call 80; (with_reducible refine (spec_l1in.calls a2 0 100000000 false _ A12.out).mono ?_); rintro e w' ⟨rfl, ⟨nd, rfl⟩⟩))
     go_meet
     case rel => exact ⟨_, (true), ze, H', ⟨by first | omega | exact Nat.le_refl _⟩, ⟨zy BK197⟩, ⟨by repeat (first | (with_reducible first | exact HB.out | apply below_alloc | apply pw_below_drewN | apply below_drew1 | refine below_set ?_ GE197.out) | exact HB.out)⟩⟩
   ·replace c11 := Bool.eq_false_iff.mpr c11
    subst c11
    have H1 : (spec_Felt.j0 k l1 a2 l3 l4 true a0_0 a0_1 a0_2 a0_3 a0_4) = some r := by rw [if_neg (show ¬ (false = true) by decide)] at H; exact H
    clear H
    have H := H1
    clear H1
    have H' := Aside0.mk H
    clear H
    obtain ⟨hcz24_0, hcz24_1, hcz24_2, hcz24_3, hcz24_4, hfz24_0, hfz24_1, hfz24_2, hfz24_3, hfz24_4⟩ := zs5 BK197
    go_wp2_with (first | ((with_reducible refine gate_callee (f := 67) rfl ?_); refine zL (some 17) Try.func67 #[.agg #[.int .i64 a0_0, .int .i64 a0_1, .int .i64 a0_2, .int .i64 a0_3, .int .i64 a0_4]] ?_; (with_reducible refine (spec_RulesOk.calls a0_0 a0_1 a0_2 a0_3 a0_4 true _ A8.out).mono ?_); rintro e w25 ⟨rfl, hb⟩; refine ⟨_, rfl, ?_⟩; replace BK197 := zb BK197 hb; replace HB := zB HB hb; (try clear hb)) | (go_at_call 36; (with_reducible refine (spec_MarksOk.calls k _ _ l1 false _ ?side1 ?side2 A10.out).mono ?_); (case side1 => repeat (first | exact (Kd.C_below HR1.out HB.out) | (with_reducible refine Kd.C_alloc ?_ _) | (with_reducible refine Kd.C_drewN ?_ _) | (with_reducible refine Kd.C_drew ?_))); (case side2 => exact HC1.out); rintro e w26 ⟨rfl, hb⟩; replace BK197 := zb BK197 hb; replace HB := zB HB hb; (try clear hb)))
    go_meet
    case rel => exact ⟨_, (true), ze, H', ⟨by first | omega | exact Nat.le_refl _⟩, ⟨zy BK197⟩, ⟨by repeat (first | (with_reducible first | exact HB.out | apply below_alloc | apply pw_below_drewN | apply below_drew1 | refine below_set ?_ GE197.out) | exact HB.out)⟩⟩
  ·replace c9 := Bool.eq_false_iff.mpr c9
   subst c9
   have H1 : (spec_Felt.j0 k l1 a2 l3 l4 true a0_0 a0_1 a0_2 a0_3 a0_4) = some r := by rw [if_neg (show ¬ (false = true) by decide)] at H; exact H
   clear H
   have H := H1
   clear H1
   have H' := Aside0.mk H
   clear H
   obtain ⟨hcz27_0, hcz27_1, hcz27_2, hcz27_3, hcz27_4, hfz27_0, hfz27_1, hfz27_2, hfz27_3, hfz27_4⟩ := zs5 BK197
   go_wp2_with (first | ((with_reducible refine gate_callee (f := 67) rfl ?_); refine zL (some 17) Try.func67 #[.agg #[.int .i64 a0_0, .int .i64 a0_1, .int .i64 a0_2, .int .i64 a0_3, .int .i64 a0_4]] ?_; (with_reducible refine (spec_RulesOk.calls a0_0 a0_1 a0_2 a0_3 a0_4 false _ A8.out).mono ?_); rintro e w28 ⟨rfl, hb⟩; refine ⟨_, rfl, ?_⟩; replace BK197 := zb BK197 hb; replace HB := zB HB hb; (try clear hb)))
   go_meet
   case rel => exact ⟨_, (true), ze, H', ⟨by first | omega | exact Nat.le_refl _⟩, ⟨zy BK197⟩, ⟨by repeat (first | (with_reducible first | exact HB.out | apply below_alloc | apply pw_below_drewN | apply below_drew1 | refine below_set ?_ GE197.out) | exact HB.out)⟩⟩
 case rest =>
  clear HC6
  (try clear c1); (try clear p2); (try clear c3); (try clear c4); (try clear c6); (try clear c9); (try clear c11); (try clear c13); (try clear c14); (try clear c14b0); (try clear c14b1); (try clear hcz15_0); (try clear hcz15_1); (try clear hcz15_2); (try clear hcz15_3); (try clear hcz15_4); (try clear hcz18_0); (try clear hcz18_1); (try clear hcz18_2); (try clear hcz18_3); (try clear hcz18_4); (try clear hcz21_0); (try clear hcz21_1); (try clear hcz21_2); (try clear hcz21_3); (try clear hcz21_4); (try clear hcz24_0); (try clear hcz24_1); (try clear hcz24_2); (try clear hcz24_3); (try clear hcz24_4); (try clear hcz27_0); (try clear hcz27_1); (try clear hcz27_2); (try clear hcz27_3); (try clear hcz27_4); (try clear hfz15_0); (try clear hfz15_1); (try clear hfz15_2); (try clear hfz15_3); (try clear hfz15_4); (try clear hfz18_0); (try clear hfz18_1); (try clear hfz18_2); (try clear hfz18_3); (try clear hfz18_4); (try clear hfz21_0); (try clear hfz21_1); (try clear hfz21_2); (try clear hfz21_3); (try clear hfz21_4); (try clear hfz24_0); (try clear hfz24_1); (try clear hfz24_2); (try clear hfz24_3); (try clear hfz24_4); (try clear hfz27_0); (try clear hfz27_1); (try clear hfz27_2); (try clear hfz27_3); (try clear hfz27_4)
  obtain ⟨kq, x40_5, rfl, HA, HJ5, BK197, HB⟩ := hcut
  cases kq with
  | zero => exact absurd HA.out (by simp [spec_Felt.j0])
  | succ kj5 =>
   have H := HA.out
   clear HA
   simp only [spec_Felt.j0] at H
   by_cases c29 : x40_5 = true
   ·subst c29
    have H1 : (some ([] : List (S34))) = some r := by rw [if_pos rfl] at H; exact H
    clear H
    have H := H1
    clear H1
    obtain rfl := Option.some.inj H
    go_wp2
    go_ret
    exact ⟨_, by first | rfl | (simp [errW_none, errW_some] <;> rfl) | (simp [*, errW_none, errW_some] <;> rfl), by first | exact Kd.R_nil _ _ _ _ _ | exact Kd.N_nil _ _ _ _ _ | exact Kd.V_nil _ _ _ _ _ | exact Kd.Q_nil _ _ _ _ _ | exact Kd.S_nil _ _ _ _ _, by repeat (first | (with_reducible first | exact HB.out | apply below_alloc | apply pw_below_drewN | apply below_drew1 | refine below_set ?_ GE197.out) | exact HB.out)⟩
   ·replace c29 := Bool.eq_false_iff.mpr c29
    subst c29
    have H1 : (spec_Felt.l0 kj5 l1 a2 l4 ([] : List (S34)) l3 (l3.length : Int) 0 a0_0 a0_1 a0_2 a0_3 a0_4) = some r := by rw [if_neg (show ¬ (false = true) by decide)] at H; exact H
    clear H
    have H := H1
    clear H1
    have H' := Aside0.mk H
    clear H
    go_wp2
    go_loopg [2, 11, 43] kj5 (fun kq v2 v11 v43 w' => ∃ (x2_2 : Int) (x11_2 : List (S34)) (x43_2 : Int), v2 = .int .i64 x2_2 ∧ v43 = .int .i64 x43_2 ∧ Aside0 (spec_Felt.l0 kq l1 x2_2 l4 x11_2 l3 (l3.length : Int) x43_2 a0_0 a0_1 a0_2 a0_3 a0_4 = some r) ∧ Aside0 (kq ≤ kj5) ∧ Aside0 (Kd.R k34 34 w' w.heap.size (fun _ => True) v11 x11_2) ∧ Aside0 (w'.heap[gb197]? = some (.cells #[.int .i64 a0_0, .int .i64 a0_1, .int .i64 a0_2, .int .i64 a0_3, .int .i64 a0_4] 24 (0, 0))) ∧ Aside0 (Below w.heap.size w w'))
    case atStart => exact ⟨(a2), (([] : List (S34))), (0), ze, ze, H', ⟨Nat.le_refl _⟩, ⟨by first | exact Kd.R_nil _ _ _ _ _ | exact Kd.N_nil _ _ _ _ _ | exact Kd.V_nil _ _ _ _ _ | exact Kd.Q_nil _ _ _ _ _ | exact Kd.S_nil _ _ _ _ _⟩, ⟨zy BK197⟩, ⟨by repeat (first | (with_reducible first | exact HB.out | apply below_alloc | apply pw_below_drewN | apply below_drew1 | refine below_set ?_ GE197.out) | exact HB.out)⟩⟩
    case round =>
     clear H'
     (try clear c1); (try clear c2); (try clear p2); (try clear c3); (try clear c4); (try clear c6); (try clear c9); (try clear c11); (try clear c13); (try clear c14); (try clear c14b0); (try clear c14b1); (try clear c29); (try clear hcz15_0); (try clear hcz15_1); (try clear hcz15_2); (try clear hcz15_3); (try clear hcz15_4); (try clear hcz18_0); (try clear hcz18_1); (try clear hcz18_2); (try clear hcz18_3); (try clear hcz18_4); (try clear hcz21_0); (try clear hcz21_1); (try clear hcz21_2); (try clear hcz21_3); (try clear hcz21_4); (try clear hcz24_0); (try clear hcz24_1); (try clear hcz24_2); (try clear hcz24_3); (try clear hcz24_4); (try clear hcz27_0); (try clear hcz27_1); (try clear hcz27_2); (try clear hcz27_3); (try clear hcz27_4); (try clear hfz15_0); (try clear hfz15_1); (try clear hfz15_2); (try clear hfz15_3); (try clear hfz15_4); (try clear hfz18_0); (try clear hfz18_1); (try clear hfz18_2); (try clear hfz18_3); (try clear hfz18_4); (try clear hfz21_0); (try clear hfz21_1); (try clear hfz21_2); (try clear hfz21_3); (try clear hfz21_4); (try clear hfz24_0); (try clear hfz24_1); (try clear hfz24_2); (try clear hfz24_3); (try clear hfz24_4); (try clear hfz27_0); (try clear hfz27_1); (try clear hfz27_2); (try clear hfz27_3); (try clear hfz27_4); (try clear p2)
     obtain ⟨x2_2, x11_2, x43_2, rfl, rfl, HA, HK2, HO_11, BK197, HB⟩ := hrel
     cases gk with
     | zero => exact absurd HA.out (by simp [spec_Felt.l0])
     | succ k2 =>
      have H := HA.out
      clear HA
      simp only [spec_Felt.l0] at H
      by_cases c30 : x43_2 < (l3.length : Int)
      ·rw [if_pos c30] at H
       have c30b0 : decide (x43_2 < (l3.length : Int)) = true := decide_eq_true c30
       clear c30
       by_cases c31 : 0 ≤ x43_2
       ·rw [if_pos c31] at H
        have c31b0 : decide (0 ≤ x43_2) = true := decide_eq_true c31
        clear c31
        by_cases c32 : x43_2 < (l3.length : Int)
        ·rw [if_pos c32] at H
         have c32b0 : decide (x43_2 < (l3.length : Int)) = true := decide_eq_true c32
         clear c32
         replace H := Option.bind_eq_some_iff.mp H
         obtain ⟨t203, A330, H⟩ := H
         replace H : (if t203 = true then (if (wrap64 (x2_2 + ((rd_T90 l3 x43_2).f0))) > 100000000 then (some ([] : List (S34))) else (if x11_2.length < 8796093022208 then (spec_Felt.l1 k2 l1 (wrap64 (x2_2 + ((rd_T90 l3 x43_2).f0))) l4 (x11_2 ++ [(⟨1, (rd_T90 l3 x43_2).f1⟩ : S34)]) x43_2 l3 (l3.length : Int) x43_2 l1 (l1.length : Int) 0 a0_0 a0_1 a0_2 a0_3 a0_4) else (none))) else (some ([] : List (S34)))) = some r := H
         have A33 := Aside0.mk A330
         clear A330
         by_cases c34 : t203 = true
         ·subst c34
          have H1 : (if (wrap64 (x2_2 + ((rd_T90 l3 x43_2).f0))) > 100000000 then (some ([] : List (S34))) else (if x11_2.length < 8796093022208 then (spec_Felt.l1 k2 l1 (wrap64 (x2_2 + ((rd_T90 l3 x43_2).f0))) l4 (x11_2 ++ [(⟨1, (rd_T90 l3 x43_2).f1⟩ : S34)]) x43_2 l3 (l3.length : Int) x43_2 l1 (l1.length : Int) 0 a0_0 a0_1 a0_2 a0_3 a0_4) else (none))) = some r := by rw [if_pos rfl] at H; exact H
          clear H
          have H := H1
          clear H1
          by_cases c35 : (wrap64 (x2_2 + ((rd_T90 l3 x43_2).f0))) > 100000000
          ·rw [if_pos c35] at H
           have c35b0 : decide (100000000 < (wrap64 (x2_2 + ((rd_T90 l3 x43_2).f0)))) = true := decide_eq_true c35
           clear c35
           obtain rfl := Option.some.inj H
           have p201 : 0 ≤ (x43_2 : Int) := of_decide_eq_true (by first | (with_reducible assumption) | assumption)
           have q201 : x43_2 < (l3.length : Int) := of_decide_eq_true (by first | (with_reducible assumption) | assumption)
           obtain ⟨ad201, e201, hx201_0, hx201_1⟩ := at_T90 HR3.out x43_2 p201 q201
           cases e201
           replace hx201_0 := (HB.out.cell (World.block_lt_of_cell? w _ hx201_0)).trans hx201_0
           replace hx201_1 := (HB.out.cell (World.block_lt_of_cell? w _ hx201_1)).trans hx201_1
           replace p201 := eq_true p201
           replace q201 := eq_true q201
           go_wp2_with (first | ((with_reducible refine gate_dst (N := 13) rfl ?_); (try (refine gate_guard (by rfl) ?_; dsimp only)); refine zx 13 #[.int .i64 0, .int .i64 0] 90 ?_; intro gb202 hg w36 hbox hb; have BK202 := Aside0.mk (hbox); have GW202 := zge HB hg; have GE202 := GW202; have NB197_202 := zl BK197 hg; have NB202_197 := zg BK197 hg; replace BK197 := zb BK197 hb; replace HB := zB HB hb; replace HO_11 := Aside0.mk (Kd.R_below (zr HO_11) hb); clear hb hbox hg; have hnb37 := NB202_197.out; have hnc37 := NB197_202.out; obtain ⟨hcz38_0, hcz38_1, hfz38_0, hfz38_1⟩ := zs2 BK202) | ((with_reducible refine gate_callee (f := 87) rfl ?_); refine zL (some 49) Try.func87 #[.agg #[.int .i64 ((rd_T90 l3 x43_2).f0), .int .i64 ((rd_T90 l3 x43_2).f1)]] ?_; (with_reducible refine (spec_l4true.calls ((rd_T90 l3 x43_2).f0) ((rd_T90 l3 x43_2).f1) true _ A33.out).mono ?_); rintro e w39 ⟨rfl, hb⟩; refine ⟨_, rfl, ?_⟩; have n0_ := Aside0.mk (Kd.R_below (by (with_reducible repeat (first | apply Kd.R_alloc | apply Kd.R_drewN | apply Kd.R_drew)); exact (Kd.R_mono (Kd.R_far (p := ⟨gb202, 1, none⟩) (Kd.R_far (p := ⟨gb202, 0, none⟩) (Kd.R_types HO_11.out BK202.out (by decide)) (fun _ hk => hk.2) (.int .i64 ((rd_T90 l3 x43_2).f0))) (fun _ hk => hk.2) (.int .i64 ((rd_T90 l3 x43_2).f1))) (fun _ h_ => h_.1))) hb); have n1_ := Aside0.mk (blk_below (g := gb197) (o := .cells #[.int .i64 a0_0, .int .i64 a0_1, .int .i64 a0_2, .int .i64 a0_3, .int .i64 a0_4] 24 (0, 0)) (by (with_reducible repeat (first | refine blk_drewN ?_ _ | refine blk_drew ?_ | refine blk_alloc ?_ _)); refine blk_far ?_ NB197_202.out _; (with_reducible repeat (first | refine blk_drewN ?_ _ | refine blk_drew ?_ | refine blk_alloc ?_ _)); refine blk_far ?_ NB197_202.out _; (with_reducible repeat (first | refine blk_drewN ?_ _ | refine blk_drew ?_ | refine blk_alloc ?_ _)); exact BK197.out) hb); have n2_ := Aside0.mk (blk_below (g := gb202) (o := .cells #[.int .i64 ((rd_T90 l3 x43_2).f0), .int .i64 ((rd_T90 l3 x43_2).f1)] 90 (0, 0)) (by (with_reducible repeat (first | refine blk_drewN ?_ _ | refine blk_drew ?_ | refine blk_alloc ?_ _)); refine blk_put (cs := #[.int .i64 ((rd_T90 l3 x43_2).f0), .int .i64 0]) ?_ 1 _ rfl; (with_reducible repeat (first | refine blk_drewN ?_ _ | refine blk_drew ?_ | refine blk_alloc ?_ _)); refine blk_put (cs := #[.int .i64 0, .int .i64 0]) ?_ 0 _ rfl; (with_reducible repeat (first | refine blk_drewN ?_ _ | refine blk_drew ?_ | refine blk_alloc ?_ _)); exact BK202.out) hb); have n3_ := Aside0.mk (below_step (by repeat (first | (with_reducible first | exact HB.out | apply below_alloc | apply pw_below_drewN | apply below_drew1 | refine below_set ?_ GE197.out | refine below_set ?_ GE202.out) | exact HB.out)) hb); clear HO_11 BK197 BK202 HB; have HO_11 := n0_; have BK197 := n1_; have BK202 := n2_; have HB := n3_; clear n0_ n1_ n2_ n3_; (try clear hb); obtain ⟨hcz40_0, hcz40_1, hfz40_0, hfz40_1⟩ := zs2 BK202))
           go_ret
           exact ⟨_, by first | rfl | (simp [errW_none, errW_some] <;> rfl) | (simp [*, errW_none, errW_some] <;> rfl), by first | exact Kd.R_nil _ _ _ _ _ | exact Kd.N_nil _ _ _ _ _ | exact Kd.V_nil _ _ _ _ _ | exact Kd.Q_nil _ _ _ _ _ | exact Kd.S_nil _ _ _ _ _, by repeat (first | (with_reducible first | exact HB.out | apply below_alloc | apply pw_below_drewN | apply below_drew1 | refine below_set ?_ GE197.out | refine below_set ?_ GE202.out) | exact HB.out)⟩
          ·rw [if_neg c35] at H
           have c35b0 : decide (100000000 < (wrap64 (x2_2 + ((rd_T90 l3 x43_2).f0)))) = false := decide_eq_false c35
           clear c35
           by_cases c41 : x11_2.length < 8796093022208
           ·rw [if_pos c41] at H
            have LMc41 := Aside0.mk c41
            clear c41
            obtain ⟨y204, hy204⟩ : ∃ y_ : List (S34), y_ = (x11_2 ++ [(⟨1, (rd_T90 l3 x43_2).f1⟩ : S34)]) := ⟨_, rfl⟩
            replace H : (spec_Felt.l1 k2 l1 (wrap64 (x2_2 + ((rd_T90 l3 x43_2).f0))) l4 y204 x43_2 l3 (l3.length : Int) x43_2 l1 (l1.length : Int) 0 a0_0 a0_1 a0_2 a0_3 a0_4) = some r := by first | (rw [hy204]; with_reducible exact H) | (have H2_ := (Option.bind_some _ _).symm.trans H; rw [hy204]; with_reducible exact H2_) | (have H2_ := (Option.bind_some _ _).symm.trans H; with_reducible exact H2_) | with_reducible exact H | (rw [hy204]; exact H) | exact H
            have Ny204 := Aside0.mk hy204
            clear hy204
            have H' := Aside0.mk H
            clear H
            have p201 : 0 ≤ (x43_2 : Int) := of_decide_eq_true (by first | (with_reducible assumption) | assumption)
            have q201 : x43_2 < (l3.length : Int) := of_decide_eq_true (by first | (with_reducible assumption) | assumption)
            obtain ⟨ad201, e201, hx201_0, hx201_1⟩ := at_T90 HR3.out x43_2 p201 q201
            cases e201
            replace hx201_0 := (HB.out.cell (World.block_lt_of_cell? w _ hx201_0)).trans hx201_0
            replace hx201_1 := (HB.out.cell (World.block_lt_of_cell? w _ hx201_1)).trans hx201_1
            replace p201 := eq_true p201
            replace q201 := eq_true q201
            go_wp2_with (first | ((with_reducible refine gate_dst (N := 13) rfl ?_); (try (refine gate_guard (by rfl) ?_; dsimp only)); refine zx 13 #[.int .i64 0, .int .i64 0] 90 ?_; intro gb202 hg w42 hbox hb; have BK202 := Aside0.mk (hbox); have GW202 := zge HB hg; have GE202 := GW202; have NB197_202 := zl BK197 hg; have NB202_197 := zg BK197 hg; replace BK197 := zb BK197 hb; replace HB := zB HB hb; replace HO_11 := Aside0.mk (Kd.R_below (zr HO_11) hb); clear hb hbox hg; have hnb43 := NB202_197.out; have hnc43 := NB197_202.out; obtain ⟨hcz44_0, hcz44_1, hfz44_0, hfz44_1⟩ := zs2 BK202) | ((with_reducible refine gate_callee (f := 87) rfl ?_); refine zL (some 49) Try.func87 #[.agg #[.int .i64 ((rd_T90 l3 x43_2).f0), .int .i64 ((rd_T90 l3 x43_2).f1)]] ?_; (with_reducible refine (spec_l4true.calls ((rd_T90 l3 x43_2).f0) ((rd_T90 l3 x43_2).f1) true _ A33.out).mono ?_); rintro e w45 ⟨rfl, hb⟩; refine ⟨_, rfl, ?_⟩; have n0_ := Aside0.mk (Kd.R_below (by (with_reducible repeat (first | apply Kd.R_alloc | apply Kd.R_drewN | apply Kd.R_drew)); exact (Kd.R_mono (Kd.R_far (p := ⟨gb202, 1, none⟩) (Kd.R_far (p := ⟨gb202, 0, none⟩) (Kd.R_types HO_11.out BK202.out (by decide)) (fun _ hk => hk.2) (.int .i64 ((rd_T90 l3 x43_2).f0))) (fun _ hk => hk.2) (.int .i64 ((rd_T90 l3 x43_2).f1))) (fun _ h_ => h_.1))) hb); have n1_ := Aside0.mk (blk_below (g := gb197) (o := .cells #[.int .i64 a0_0, .int .i64 a0_1, .int .i64 a0_2, .int .i64 a0_3, .int .i64 a0_4] 24 (0, 0)) (by (with_reducible repeat (first | refine blk_drewN ?_ _ | refine blk_drew ?_ | refine blk_alloc ?_ _)); refine blk_far ?_ NB197_202.out _; (with_reducible repeat (first | refine blk_drewN ?_ _ | refine blk_drew ?_ | refine blk_alloc ?_ _)); refine blk_far ?_ NB197_202.out _; (with_reducible repeat (first | refine blk_drewN ?_ _ | refine blk_drew ?_ | refine blk_alloc ?_ _)); exact BK197.out) hb); have n2_ := Aside0.mk (blk_below (g := gb202) (o := .cells #[.int .i64 ((rd_T90 l3 x43_2).f0), .int .i64 ((rd_T90 l3 x43_2).f1)] 90 (0, 0)) (by (with_reducible repeat (first | refine blk_drewN ?_ _ | refine blk_drew ?_ | refine blk_alloc ?_ _)); refine blk_put (cs := #[.int .i64 ((rd_T90 l3 x43_2).f0), .int .i64 0]) ?_ 1 _ rfl; (with_reducible repeat (first | refine blk_drewN ?_ _ | refine blk_drew ?_ | refine blk_alloc ?_ _)); refine blk_put (cs := #[.int .i64 0, .int .i64 0]) ?_ 0 _ rfl; (with_reducible repeat (first | refine blk_drewN ?_ _ | refine blk_drew ?_ | refine blk_alloc ?_ _)); exact BK202.out) hb); have n3_ := Aside0.mk (below_step (by repeat (first | (with_reducible first | exact HB.out | apply below_alloc | apply pw_below_drewN | apply below_drew1 | refine below_set ?_ GE197.out | refine below_set ?_ GE202.out) | exact HB.out)) hb); clear HO_11 BK197 BK202 HB; have HO_11 := n0_; have BK197 := n1_; have BK202 := n2_; have HB := n3_; clear n0_ n1_ n2_ n3_; (try clear hb); obtain ⟨hcz46_0, hcz46_1, hfz46_0, hfz46_1⟩ := zs2 BK202) | ((with_reducible refine gate_builtin (b := .append) (xs := #[.tmp 57, .tmp 61]) rfl ?_); (try (refine gate_guard (by rfl) ?_; dsimp only)); at_builtin; refine Kd.R_append k34 (w0 := w) w.heap.size rfl (.tmp 57) (.tmp 61) 58 34 (.agg #[(.int .i64 0), (.int .i64 0)]) 16 rfl Try.underlying58 info34 rfl (by decide) (by omega) u11 x11_2 (⟨1, (rd_T90 l3 x43_2).f1⟩ : S34) [.int .i64 1, .int .i64 ((rd_T90 l3 x43_2).f1)] (fun _ => True) (fun _ => False) rfl rfl ?aP (fun _ hk => hk.elim) ?aF ?aO ?aB ?aS ?aL ?_; (case aP => exact k34_mkM _ _ _ (⟨1, (rd_T90 l3 x43_2).f1⟩ : S34)); (case aB => exact (by repeat (first | (with_reducible first | exact HB.out | apply below_alloc | apply pw_below_drewN | apply below_drew1 | refine below_set ?_ GE197.out | refine below_set ?_ GE202.out) | exact HB.out))); (case aF => exact (fun _ _ => trivial)); (case aO => exact (zr HO_11)); (case aS => exact (below_size (by repeat (first | (with_reducible first | exact HB.out | apply below_alloc | apply pw_below_drewN | apply below_drew1 | refine below_set ?_ GE197.out | refine below_set ?_ GE202.out) | exact HB.out)))); (case aL => have := LMc41.out; omega); intro v205 w47 ho hb hg hat; rw [← Ny204.out] at ho; have n0_ := Aside0.mk (blk_grown (g := gb197) (o := .cells #[.int .i64 a0_0, .int .i64 a0_1, .int .i64 a0_2, .int .i64 a0_3, .int .i64 a0_4] 24 (0, 0)) (zy BK197) hg (Kd.R_ne HO_11.out BK197.out (by decide))); have n1_ := Aside0.mk (blk_grown (g := gb202) (o := .cells #[.int .i64 ((rd_T90 l3 x43_2).f0), .int .i64 ((rd_T90 l3 x43_2).f1)] 90 (0, 0)) (zy BK202) hg (Kd.R_ne HO_11.out BK202.out (by decide))); have n2_ := Aside0.mk (hb); have HO206 := Aside0.mk (ho); clear BK197 BK202 HB; have BK197 := n0_; have BK202 := n1_; have HB := n2_; clear n0_ n1_ n2_ HO_11 ho hb hg hat))
            go_loopg [11, 65] k2 (fun kq v11 v65 w' => ∃ (x11_3 : List (S34)) (x65_3 : Int), v65 = .int .i64 x65_3 ∧ Aside0 (spec_Felt.l1 kq l1 (wrap64 (x2_2 + ((rd_T90 l3 x43_2).f0))) l4 x11_3 x43_2 l3 (l3.length : Int) x43_2 l1 (l1.length : Int) x65_3 a0_0 a0_1 a0_2 a0_3 a0_4 = some r) ∧ Aside0 (kq ≤ k2) ∧ Aside0 (Kd.R k34 34 w' w.heap.size (fun _ => True) v11 x11_3) ∧ Aside0 (w'.heap[gb197]? = some (.cells #[.int .i64 a0_0, .int .i64 a0_1, .int .i64 a0_2, .int .i64 a0_3, .int .i64 a0_4] 24 (0, 0))) ∧ Aside0 (w'.heap[gb202]? = some (.cells #[.int .i64 ((rd_T90 l3 x43_2).f0), .int .i64 ((rd_T90 l3 x43_2).f1)] 90 (0, 0))) ∧ Aside0 (Below w.heap.size w w'))
            case atStart => exact ⟨(y204), (0), ze, H', ⟨Nat.le_refl _⟩, ⟨zr HO206⟩, ⟨zy BK197⟩, ⟨zy BK202⟩, ⟨by repeat (first | (with_reducible first | exact HB.out | apply below_alloc | apply pw_below_drewN | apply below_drew1 | refine below_set ?_ GE197.out | refine below_set ?_ GE202.out) | exact HB.out)⟩⟩
            case round =>
             clear H'
             (try clear c1); (try clear c2); (try clear p2); (try clear q2); (try clear hx2); (try clear c3); (try clear c4); (try clear c6); (try clear p6); (try clear c8); (try clear c9); (try clear c11); (try clear c13); (try clear c14); (try clear c14b0); (try clear c14b1); (try clear p20); (try clear q20); (try clear hx20); (try clear c29); (try clear c30); (try clear c30b0); (try clear c31); (try clear c31b0); (try clear c32); (try clear c32b0); (try clear c34); (try clear c35); (try clear c35b0); (try clear c37); (try clear c41); (try clear c43); (try clear c46); (try clear hcz15_0); (try clear hcz15_1); (try clear hcz15_2); (try clear hcz15_3); (try clear hcz15_4); (try clear hcz18_0); (try clear hcz18_1); (try clear hcz18_2); (try clear hcz18_3); (try clear hcz18_4); (try clear hcz21_0); (try clear hcz21_1); (try clear hcz21_2); (try clear hcz21_3); (try clear hcz21_4); (try clear hcz24_0); (try clear hcz24_1); (try clear hcz24_2); (try clear hcz24_3); (try clear hcz24_4); (try clear hcz27_0); (try clear hcz27_1); (try clear hcz27_2); (try clear hcz27_3); (try clear hcz27_4); (try clear hcz38_0); (try clear hcz38_1); (try clear hcz40_0); (try clear hcz40_1); (try clear hcz44_0); (try clear hcz44_1); (try clear hcz46_0); (try clear hcz46_1); (try clear hfz15_0); (try clear hfz15_1); (try clear hfz15_2); (try clear hfz15_3); (try clear hfz15_4); (try clear hfz18_0); (try clear hfz18_1); (try clear hfz18_2); (try clear hfz18_3); (try clear hfz18_4); (try clear hfz21_0); (try clear hfz21_1); (try clear hfz21_2); (try clear hfz21_3); (try clear hfz21_4); (try clear hfz24_0); (try clear hfz24_1); (try clear hfz24_2); (try clear hfz24_3); (try clear hfz24_4); (try clear hfz27_0); (try clear hfz27_1); (try clear hfz27_2); (try clear hfz27_3); (try clear hfz27_4); (try clear hfz38_0); (try clear hfz38_1); (try clear hfz40_0); (try clear hfz40_1); (try clear hfz44_0); (try clear hfz44_1); (try clear hfz46_0); (try clear hfz46_1); (try clear hx201_0); (try clear hx201_1); (try clear p2); (try clear p201); (try clear q201)
             obtain ⟨x11_3, x65_3, rfl, HA, HK3, HO_11, BK197, BK202, HB⟩ := hrel
             cases gk with
             | zero => exact absurd HA.out (by simp [spec_Felt.l1])
             | succ k3 =>
              have H := HA.out
              clear HA
              simp only [spec_Felt.l1] at H
              by_cases c48 : x65_3 < (l1.length : Int)
              ·rw [if_pos c48] at H
               have c48b0 : decide (x65_3 < (l1.length : Int)) = true := decide_eq_true c48
               clear c48
               by_cases c49 : 0 ≤ x65_3
               ·rw [if_pos c49] at H
                have c49b0 : decide (0 ≤ x65_3) = true := decide_eq_true c49
                clear c49
                by_cases c50 : x65_3 < (l1.length : Int)
                ·rw [if_pos c50] at H
                 have c50b0 : decide (x65_3 < (l1.length : Int)) = true := decide_eq_true c50
                 clear c50
                 by_cases c51 : 0 ≤ x43_2
                 ·rw [if_pos c51] at H
                  have c51b0 : decide (0 ≤ x43_2) = true := decide_eq_true c51
                  clear c51
                  by_cases c52 : x43_2 < (l4.length : Int)
                  ·rw [if_pos c52] at H
                   have c52b0 : decide (x43_2 < (l4.length : Int)) = true := decide_eq_true c52
                   clear c52
                   by_cases c53 : (rd l4 x43_2) = 1
                   ·rw [if_pos c53] at H
                    have c53b0 : ((rd l4 x43_2) == 1) = true := beq_iff_eq.mpr c53
                    have c53b1 : ((rd l4 x43_2) != 1) = false := bne_eq_false_iff_eq.mpr c53
                    clear c53
                    replace H := Option.bind_eq_some_iff.mp H
                    obtain ⟨t210, A540, H⟩ := H
                    replace H : (if t210 = true then (if x11_3.length < 8796093022208 then (spec_Felt.l1 k3 l1 (wrap64 (x2_2 + ((rd_T90 l3 x43_2).f0))) l4 (x11_3 ++ [(⟨2, (rd_T37 l1 x65_3).f0⟩ : S34)]) x43_2 l3 (l3.length : Int) x43_2 l1 (l1.length : Int) (wrap64 (x65_3 + 1)) a0_0 a0_1 a0_2 a0_3 a0_4) else (none)) else (spec_Felt.l1 k3 l1 (wrap64 (x2_2 + ((rd_T90 l3 x43_2).f0))) l4 x11_3 x43_2 l3 (l3.length : Int) x43_2 l1 (l1.length : Int) (wrap64 (x65_3 + 1)) a0_0 a0_1 a0_2 a0_3 a0_4)) = some r := H
                    have A54 := Aside0.mk A540
                    clear A540
                    by_cases c55 : t210 = true
                    ·subst c55
                     have H1 : (if x11_3.length < 8796093022208 then (spec_Felt.l1 k3 l1 (wrap64 (x2_2 + ((rd_T90 l3 x43_2).f0))) l4 (x11_3 ++ [(⟨2, (rd_T37 l1 x65_3).f0⟩ : S34)]) x43_2 l3 (l3.length : Int) x43_2 l1 (l1.length : Int) (wrap64 (x65_3 + 1)) a0_0 a0_1 a0_2 a0_3 a0_4) else (none)) = some r := by rw [if_pos rfl] at H; exact H
                     clear H
                     have H := H1
                     clear H1
                     by_cases c56 : x11_3.length < 8796093022208
                     ·rw [if_pos c56] at H
                      have LMc56 := Aside0.mk c56
                      clear c56
                      obtain ⟨y211, hy211⟩ : ∃ y_ : List (S34), y_ = (x11_3 ++ [(⟨2, (rd_T37 l1 x65_3).f0⟩ : S34)]) := ⟨_, rfl⟩
                      replace H : (spec_Felt.l1 k3 l1 (wrap64 (x2_2 + ((rd_T90 l3 x43_2).f0))) l4 y211 x43_2 l3 (l3.length : Int) x43_2 l1 (l1.length : Int) (wrap64 (x65_3 + 1)) a0_0 a0_1 a0_2 a0_3 a0_4) = some r := by first | (rw [hy211]; with_reducible exact H) | (have H2_ := (Option.bind_some _ _).symm.trans H; rw [hy211]; with_reducible exact H2_) | (have H2_ := (Option.bind_some _ _).symm.trans H; with_reducible exact H2_) | with_reducible exact H | (rw [hy211]; exact H) | exact H
                      have Ny211 := Aside0.mk hy211
                      clear hy211
                      have H' := Aside0.mk H
                      clear H
                      have p207 : 0 ≤ (x65_3 : Int) := of_decide_eq_true (by first | (with_reducible assumption) | assumption)
                      have q207 : x65_3 < (l1.length : Int) := of_decide_eq_true (by first | (with_reducible assumption) | assumption)
                      obtain ⟨ad207, e207, hx207_0, hx207_1⟩ := at_T37 HR1.out x65_3 p207 q207
                      cases e207
                      replace hx207_0 := (HB.out.cell (World.block_lt_of_cell? w _ hx207_0)).trans hx207_0
                      replace hx207_1 := (HB.out.cell (World.block_lt_of_cell? w _ hx207_1)).trans hx207_1
                      replace p207 := eq_true p207
                      replace q207 := eq_true q207
                      go_wp2_with (first | ((with_reducible refine gate_dst (N := 15) rfl ?_); (try (refine gate_guard (by rfl) ?_; dsimp only)); refine zx 15 #[.int .i64 0, .int .i64 0] 37 ?_; intro gb208 hg w57 hbox hb; have BK208 := Aside0.mk (hbox); have GW208 := zge HB hg; have GE208 := GW208; have NB197_208 := zl BK197 hg; have NB208_197 := zg BK197 hg; have NB202_208 := zl BK202 hg; have NB208_202 := zg BK202 hg; replace BK197 := zb BK197 hb; replace BK202 := zb BK202 hb; replace HB := zB HB hb; replace HO_11 := Aside0.mk (Kd.R_below (zr HO_11) hb); clear hb hbox hg; have hnb58 := NB208_197.out; have hnc58 := NB197_208.out; have hnb59 := NB208_202.out; have hnc59 := NB202_208.out; obtain ⟨hcz60_0, hcz60_1, hfz60_0, hfz60_1⟩ := zs2 BK208; have p209 : 0 ≤ (x43_2 : Int) := of_decide_eq_true (by first | (with_reducible assumption) | assumption); have q209 : x43_2 < (l4.length : Int) := of_decide_eq_true (by first | (with_reducible assumption) | assumption); obtain ⟨ad209, e209, hx209_0⟩ := Kd.at_int HR4.out x43_2 p209 q209; cases e209; have hn209_0 : ad209.block ≠ gb208 := Nat.ne_of_lt (Nat.lt_of_lt_of_le (by have := World.block_lt_of_cell? _ _ hx209_0; first | rwa [add_block] at this | exact this) GW208.out); have hn209_1 : ad209.block ≠ gb208 := Nat.ne_of_lt (Nat.lt_of_lt_of_le (by have := World.block_lt_of_cell? _ _ hx209_0; first | rwa [add_block] at this | exact this) GW208.out); replace hx209_0 := (HB.out.cell (World.block_lt_of_cell? w _ hx209_0)).trans hx209_0; replace hx209_0 := (cell_far (p := ⟨gb208, 0, none⟩) (by first | (rw [add_block]; exact hn209_0) | (show (Addr.add _ _).block ≠ _; rw [add_block]; exact hn209_0) | exact hn209_0) (.int .i64 ((rd_T37 l1 x65_3).f0))).trans hx209_0; replace hx209_0 := (cell_far (p := ⟨gb208, 1, none⟩) (by first | (rw [add_block]; exact hn209_1) | (show (Addr.add _ _).block ≠ _; rw [add_block]; exact hn209_1) | exact hn209_1) (.int .i64 ((rd_T37 l1 x65_3).f1))).trans hx209_0; clear hn209_0 hn209_1; replace p209 := eq_true p209; replace q209 := eq_true q209; have hnb61 := NB197_202.out; have hnc61 := NB202_197.out; obtain ⟨hcz62_0, hcz62_1, hcz62_2, hcz62_3, hcz62_4, hfz62_0, hfz62_1, hfz62_2, hfz62_3, hfz62_4⟩ := zs5 BK197) | (go_at_call 80; (with_reducible refine (spec_l1in.calls (wrap64 (x2_2 + ((rd_T90 l3 x43_2).f0))) (wrap64 (((rd_T37 l1 x65_3).f1) - a0_2)) (wrap64 (((rd_T37 l1 x65_3).f1) + a0_2)) true _ A54.out).mono ?_); rintro e w' ⟨rfl, ⟨nd, rfl⟩⟩) | ((with_reducible refine gate_builtin (b := .append) (xs := #[.tmp 88, .tmp 92]) rfl ?_); (try (refine gate_guard (by rfl) ?_; dsimp only)); at_builtin; refine Kd.R_append k34 (w0 := w) w.heap.size rfl (.tmp 88) (.tmp 92) 58 34 (.agg #[(.int .i64 0), (.int .i64 0)]) 16 rfl Try.underlying58 info34 rfl (by decide) (by omega) u11 x11_3 (⟨2, (rd_T37 l1 x65_3).f0⟩ : S34) [.int .i64 2, .int .i64 ((rd_T37 l1 x65_3).f0)] (fun _ => True) (fun _ => False) rfl (by first | (go_simp; done) | (go_simp; rfl)) ?aP (fun _ hk => hk.elim) ?aF ?aO ?aB ?aS ?aL ?_; (case aP => exact k34_mkM _ _ _ (⟨2, (rd_T37 l1 x65_3).f0⟩ : S34)); (case aB => exact (by repeat (first | (with_reducible first | exact HB.out | apply below_alloc | apply pw_below_drewN | apply below_drew1 | refine below_set ?_ GE197.out | refine below_set ?_ GE202.out | refine below_set ?_ GE208.out) | exact HB.out))); (case aF => exact (fun _ _ => trivial)); (case aO => exact (by (with_reducible repeat (first | apply Kd.R_alloc | apply Kd.R_drewN | apply Kd.R_drew)); exact Kd.R_mono (Kd.R_far (p := ⟨gb208, 1, none⟩) (Kd.R_far (p := ⟨gb208, 0, none⟩) (Kd.R_types HO_11.out BK208.out (by decide)) (fun _ hk => hk.2) (.int .i64 ((rd_T37 l1 x65_3).f0))) (fun _ hk => hk.2) (.int .i64 ((rd_T37 l1 x65_3).f1))) (fun _ hk => trivial))); (case aS => exact (below_size (by repeat (first | (with_reducible first | exact HB.out | apply below_alloc | apply pw_below_drewN | apply below_drew1 | refine below_set ?_ GE197.out | refine below_set ?_ GE202.out | refine below_set ?_ GE208.out) | exact HB.out)))); (case aL => have := LMc56.out; omega); intro v212 w63 ho hb hg hat; rw [← Ny211.out] at ho; have n0_ := Aside0.mk (blk_grown (g := gb197) (o := .cells #[.int .i64 a0_0, .int .i64 a0_1, .int .i64 a0_2, .int .i64 a0_3, .int .i64 a0_4] 24 (0, 0)) (by (with_reducible repeat (first | refine blk_drewN ?_ _ | refine blk_drew ?_ | refine blk_alloc ?_ _)); refine blk_far ?_ NB197_208.out _; (with_reducible repeat (first | refine blk_drewN ?_ _ | refine blk_drew ?_ | refine blk_alloc ?_ _)); refine blk_far ?_ NB197_208.out _; (with_reducible repeat (first | refine blk_drewN ?_ _ | refine blk_drew ?_ | refine blk_alloc ?_ _)); exact BK197.out) hg (Kd.R_ne HO_11.out BK197.out (by decide))); have n1_ := Aside0.mk (blk_grown (g := gb202) (o := .cells #[.int .i64 ((rd_T90 l3 x43_2).f0), .int .i64 ((rd_T90 l3 x43_2).f1)] 90 (0, 0)) (by (with_reducible repeat (first | refine blk_drewN ?_ _ | refine blk_drew ?_ | refine blk_alloc ?_ _)); refine blk_far ?_ NB202_208.out _; (with_reducible repeat (first | refine blk_drewN ?_ _ | refine blk_drew ?_ | refine blk_alloc ?_ _)); refine blk_far ?_ NB202_208.out _; (with_reducible repeat (first | refine blk_drewN ?_ _ | refine blk_drew ?_ | refine blk_alloc ?_ _)); exact BK202.out) hg (Kd.R_ne HO_11.out BK202.out (by decide))); have n2_ := Aside0.mk (blk_grown (g := gb208) (o := .cells #[.int .i64 ((rd_T37 l1 x65_3).f0), .int .i64 ((rd_T37 l1 x65_3).f1)] 37 (0, 0)) (by (with_reducible repeat (first | refine blk_drewN ?_ _ | refine blk_drew ?_ | refine blk_alloc ?_ _)); refine blk_put (cs := #[.int .i64 ((rd_T37 l1 x65_3).f0), .int .i64 0]) ?_ 1 _ rfl; (with_reducible repeat (first | refine blk_drewN ?_ _ | refine blk_drew ?_ | refine blk_alloc ?_ _)); refine blk_put (cs := #[.int .i64 0, .int .i64 0]) ?_ 0 _ rfl; (with_reducible repeat (first | refine blk_drewN ?_ _ | refine blk_drew ?_ | refine blk_alloc ?_ _)); exact BK208.out) hg (Kd.R_ne HO_11.out BK208.out (by decide))); have n3_ := Aside0.mk (hb); have HO213 := Aside0.mk (ho); clear BK197 BK202 BK208 HB; have BK197 := n0_; have BK202 := n1_; have BK208 := n2_; have HB := n3_; clear n0_ n1_ n2_ n3_ HO_11 ho hb hg hat))
                      go_roundg k3
                      case measure => have := HJ5.out; have := HK2.out; have := HK3.out; omega
                      case rel => exact ⟨(y211), (wrap64 (x65_3 + 1)), ze, H', ⟨by have := HJ5.out; have := HK2.out; have := HK3.out; omega⟩, ⟨zr HO213⟩, ⟨zy BK197⟩, ⟨zy BK202⟩, ⟨by repeat (first | (with_reducible first | exact HB.out | apply below_alloc | apply pw_below_drewN | apply below_drew1 | refine below_set ?_ GE197.out | refine below_set ?_ GE202.out | refine below_set ?_ GE208.out) | exact HB.out)⟩⟩
                     ·rw [if_neg c56] at H
                      exact absurd H (by simp)
                    ·replace c55 := Bool.eq_false_iff.mpr c55
                     subst c55
                     have H1 : (spec_Felt.l1 k3 l1 (wrap64 (x2_2 + ((rd_T90 l3 x43_2).f0))) l4 x11_3 x43_2 l3 (l3.length : Int) x43_2 l1 (l1.length : Int) (wrap64 (x65_3 + 1)) a0_0 a0_1 a0_2 a0_3 a0_4) = some r := by rw [if_neg (show ¬ (false = true) by decide)] at H; exact H
                     clear H
                     have H := H1
                     clear H1
                     have H' := Aside0.mk H
                     clear H
                     have p207 : 0 ≤ (x65_3 : Int) := of_decide_eq_true (by first | (with_reducible assumption) | assumption)
                     have q207 : x65_3 < (l1.length : Int) := of_decide_eq_true (by first | (with_reducible assumption) | assumption)
                     obtain ⟨ad207, e207, hx207_0, hx207_1⟩ := at_T37 HR1.out x65_3 p207 q207
                     cases e207
                     replace hx207_0 := (HB.out.cell (World.block_lt_of_cell? w _ hx207_0)).trans hx207_0
                     replace hx207_1 := (HB.out.cell (World.block_lt_of_cell? w _ hx207_1)).trans hx207_1
                     replace p207 := eq_true p207
                     replace q207 := eq_true q207
                     go_wp2_with (first | ((with_reducible refine gate_dst (N := 15) rfl ?_); (try (refine gate_guard (by rfl) ?_; dsimp only)); refine zx 15 #[.int .i64 0, .int .i64 0] 37 ?_; intro gb208 hg w64 hbox hb; have BK208 := Aside0.mk (hbox); have GW208 := zge HB hg; have GE208 := GW208; have NB197_208 := zl BK197 hg; have NB208_197 := zg BK197 hg; have NB202_208 := zl BK202 hg; have NB208_202 := zg BK202 hg; replace BK197 := zb BK197 hb; replace BK202 := zb BK202 hb; replace HB := zB HB hb; replace HO_11 := Aside0.mk (Kd.R_below (zr HO_11) hb); clear hb hbox hg; have hnb65 := NB208_197.out; have hnc65 := NB197_208.out; have hnb66 := NB208_202.out; have hnc66 := NB202_208.out; obtain ⟨hcz67_0, hcz67_1, hfz67_0, hfz67_1⟩ := zs2 BK208; have p209 : 0 ≤ (x43_2 : Int) := of_decide_eq_true (by first | (with_reducible assumption) | assumption); have q209 : x43_2 < (l4.length : Int) := of_decide_eq_true (by first | (with_reducible assumption) | assumption); obtain ⟨ad209, e209, hx209_0⟩ := Kd.at_int HR4.out x43_2 p209 q209; cases e209; have hn209_0 : ad209.block ≠ gb208 := Nat.ne_of_lt (Nat.lt_of_lt_of_le (by have := World.block_lt_of_cell? _ _ hx209_0; first | rwa [add_block] at this | exact this) GW208.out); have hn209_1 : ad209.block ≠ gb208 := Nat.ne_of_lt (Nat.lt_of_lt_of_le (by have := World.block_lt_of_cell? _ _ hx209_0; first | rwa [add_block] at this | exact this) GW208.out); replace hx209_0 := (HB.out.cell (World.block_lt_of_cell? w _ hx209_0)).trans hx209_0; replace hx209_0 := (cell_far (p := ⟨gb208, 0, none⟩) (by first | (rw [add_block]; exact hn209_0) | (show (Addr.add _ _).block ≠ _; rw [add_block]; exact hn209_0) | exact hn209_0) (.int .i64 ((rd_T37 l1 x65_3).f0))).trans hx209_0; replace hx209_0 := (cell_far (p := ⟨gb208, 1, none⟩) (by first | (rw [add_block]; exact hn209_1) | (show (Addr.add _ _).block ≠ _; rw [add_block]; exact hn209_1) | exact hn209_1) (.int .i64 ((rd_T37 l1 x65_3).f1))).trans hx209_0; clear hn209_0 hn209_1; replace p209 := eq_true p209; replace q209 := eq_true q209; have hnb68 := NB197_202.out; have hnc68 := NB202_197.out; obtain ⟨hcz69_0, hcz69_1, hcz69_2, hcz69_3, hcz69_4, hfz69_0, hfz69_1, hfz69_2, hfz69_3, hfz69_4⟩ := zs5 BK197) | (go_at_call 80; (with_reducible refine (spec_l1in.calls (wrap64 (x2_2 + ((rd_T90 l3 x43_2).f0))) (wrap64 (((rd_T37 l1 x65_3).f1) - a0_2)) (wrap64 (((rd_T37 l1 x65_3).f1) + a0_2)) false _ A54.out).mono ?_); rintro e w' ⟨rfl, ⟨nd, rfl⟩⟩))
                     go_roundg k3
                     case measure => have := HJ5.out; have := HK2.out; have := HK3.out; omega
                     case rel => exact ⟨(x11_3), (wrap64 (x65_3 + 1)), ze, H', ⟨by have := HJ5.out; have := HK2.out; have := HK3.out; omega⟩, ⟨by (with_reducible repeat (first | apply Kd.R_alloc | apply Kd.R_drewN | apply Kd.R_drew)); exact Kd.R_mono (Kd.R_far (p := ⟨gb208, 1, none⟩) (Kd.R_far (p := ⟨gb208, 0, none⟩) (Kd.R_types HO_11.out BK208.out (by decide)) (fun _ hk => hk.2) (.int .i64 ((rd_T37 l1 x65_3).f0))) (fun _ hk => hk.2) (.int .i64 ((rd_T37 l1 x65_3).f1))) (fun _ hk => trivial)⟩, ⟨by (with_reducible repeat (first | refine blk_drewN ?_ _ | refine blk_drew ?_ | refine blk_alloc ?_ _)); refine blk_far ?_ NB197_208.out _; (with_reducible repeat (first | refine blk_drewN ?_ _ | refine blk_drew ?_ | refine blk_alloc ?_ _)); refine blk_far ?_ NB197_208.out _; (with_reducible repeat (first | refine blk_drewN ?_ _ | refine blk_drew ?_ | refine blk_alloc ?_ _)); exact BK197.out⟩, ⟨by (with_reducible repeat (first | refine blk_drewN ?_ _ | refine blk_drew ?_ | refine blk_alloc ?_ _)); refine blk_far ?_ NB202_208.out _; (with_reducible repeat (first | refine blk_drewN ?_ _ | refine blk_drew ?_ | refine blk_alloc ?_ _)); refine blk_far ?_ NB202_208.out _; (with_reducible repeat (first | refine blk_drewN ?_ _ | refine blk_drew ?_ | refine blk_alloc ?_ _)); exact BK202.out⟩, ⟨by repeat (first | (with_reducible first | exact HB.out | apply below_alloc | apply pw_below_drewN | apply below_drew1 | refine below_set ?_ GE197.out | refine below_set ?_ GE202.out | refine below_set ?_ GE208.out) | exact HB.out)⟩⟩
                   ·rw [if_neg c53] at H
                    have c53b0 : ((rd l4 x43_2) == 1) = false := beq_eq_false_iff_ne.mpr c53
                    have c53b1 : ((rd l4 x43_2) != 1) = true := bne_iff_ne.mpr c53
                    have H' := Aside0.mk H
                    clear H
                    have p207 : 0 ≤ (x65_3 : Int) := of_decide_eq_true (by first | (with_reducible assumption) | assumption)
                    have q207 : x65_3 < (l1.length : Int) := of_decide_eq_true (by first | (with_reducible assumption) | assumption)
                    obtain ⟨ad207, e207, hx207_0, hx207_1⟩ := at_T37 HR1.out x65_3 p207 q207
                    cases e207
                    replace hx207_0 := (HB.out.cell (World.block_lt_of_cell? w _ hx207_0)).trans hx207_0
                    replace hx207_1 := (HB.out.cell (World.block_lt_of_cell? w _ hx207_1)).trans hx207_1
                    replace p207 := eq_true p207
                    replace q207 := eq_true q207
                    go_wp2_with (first | ((with_reducible refine gate_dst (N := 15) rfl ?_); (try (refine gate_guard (by rfl) ?_; dsimp only)); refine zx 15 #[.int .i64 0, .int .i64 0] 37 ?_; intro gb208 hg w70 hbox hb; have BK208 := Aside0.mk (hbox); have GW208 := zge HB hg; have GE208 := GW208; have NB197_208 := zl BK197 hg; have NB208_197 := zg BK197 hg; have NB202_208 := zl BK202 hg; have NB208_202 := zg BK202 hg; replace BK197 := zb BK197 hb; replace BK202 := zb BK202 hb; replace HB := zB HB hb; replace HO_11 := Aside0.mk (Kd.R_below (zr HO_11) hb); clear hb hbox hg; have hnb71 := NB208_197.out; have hnc71 := NB197_208.out; have hnb72 := NB208_202.out; have hnc72 := NB202_208.out; obtain ⟨hcz73_0, hcz73_1, hfz73_0, hfz73_1⟩ := zs2 BK208; have p209 : 0 ≤ (x43_2 : Int) := of_decide_eq_true (by first | (with_reducible assumption) | assumption); have q209 : x43_2 < (l4.length : Int) := of_decide_eq_true (by first | (with_reducible assumption) | assumption); obtain ⟨ad209, e209, hx209_0⟩ := Kd.at_int HR4.out x43_2 p209 q209; cases e209; have hn209_0 : ad209.block ≠ gb208 := Nat.ne_of_lt (Nat.lt_of_lt_of_le (by have := World.block_lt_of_cell? _ _ hx209_0; first | rwa [add_block] at this | exact this) GW208.out); have hn209_1 : ad209.block ≠ gb208 := Nat.ne_of_lt (Nat.lt_of_lt_of_le (by have := World.block_lt_of_cell? _ _ hx209_0; first | rwa [add_block] at this | exact this) GW208.out); replace hx209_0 := (HB.out.cell (World.block_lt_of_cell? w _ hx209_0)).trans hx209_0; replace hx209_0 := (cell_far (p := ⟨gb208, 0, none⟩) (by first | (rw [add_block]; exact hn209_0) | (show (Addr.add _ _).block ≠ _; rw [add_block]; exact hn209_0) | exact hn209_0) (.int .i64 ((rd_T37 l1 x65_3).f0))).trans hx209_0; replace hx209_0 := (cell_far (p := ⟨gb208, 1, none⟩) (by first | (rw [add_block]; exact hn209_1) | (show (Addr.add _ _).block ≠ _; rw [add_block]; exact hn209_1) | exact hn209_1) (.int .i64 ((rd_T37 l1 x65_3).f1))).trans hx209_0; clear hn209_0 hn209_1; replace p209 := eq_true p209; replace q209 := eq_true q209))
                    go_roundg k3
                    case measure => have := HJ5.out; have := HK2.out; have := HK3.out; omega
                    case rel => exact ⟨(x11_3), (wrap64 (x65_3 + 1)), ze, H', ⟨by have := HJ5.out; have := HK2.out; have := HK3.out; omega⟩, ⟨by (with_reducible repeat (first | apply Kd.R_alloc | apply Kd.R_drewN | apply Kd.R_drew)); exact Kd.R_mono (Kd.R_far (p := ⟨gb208, 1, none⟩) (Kd.R_far (p := ⟨gb208, 0, none⟩) (Kd.R_types HO_11.out BK208.out (by decide)) (fun _ hk => hk.2) (.int .i64 ((rd_T37 l1 x65_3).f0))) (fun _ hk => hk.2) (.int .i64 ((rd_T37 l1 x65_3).f1))) (fun _ hk => trivial)⟩, ⟨by (with_reducible repeat (first | refine blk_drewN ?_ _ | refine blk_drew ?_ | refine blk_alloc ?_ _)); refine blk_far ?_ NB197_208.out _; (with_reducible repeat (first | refine blk_drewN ?_ _ | refine blk_drew ?_ | refine blk_alloc ?_ _)); refine blk_far ?_ NB197_208.out _; (with_reducible repeat (first | refine blk_drewN ?_ _ | refine blk_drew ?_ | refine blk_alloc ?_ _)); exact BK197.out⟩, ⟨by (with_reducible repeat (first | refine blk_drewN ?_ _ | refine blk_drew ?_ | refine blk_alloc ?_ _)); refine blk_far ?_ NB202_208.out _; (with_reducible repeat (first | refine blk_drewN ?_ _ | refine blk_drew ?_ | refine blk_alloc ?_ _)); refine blk_far ?_ NB202_208.out _; (with_reducible repeat (first | refine blk_drewN ?_ _ | refine blk_drew ?_ | refine blk_alloc ?_ _)); exact BK202.out⟩, ⟨by repeat (first | (with_reducible first | exact HB.out | apply below_alloc | apply pw_below_drewN | apply below_drew1 | refine below_set ?_ GE197.out | refine below_set ?_ GE202.out | refine below_set ?_ GE208.out) | exact HB.out)⟩⟩
                  ·rw [if_neg c52] at H
                   exact absurd H (by simp)
                 ·rw [if_neg c51] at H
                  exact absurd H (by simp)
                ·rw [if_neg c50] at H
                 exact absurd H (by simp)
               ·rw [if_neg c49] at H
                exact absurd H (by simp)
              ·rw [if_neg c48] at H
               have c48b0 : decide (x65_3 < (l1.length : Int)) = false := decide_eq_false c48
               clear c48
               have H' := Aside0.mk H
               clear H
               go_wp2
               go_roundg k3
               case measure => have := HJ5.out; have := HK2.out; have := HK3.out; omega
               case rel => exact ⟨((wrap64 (x2_2 + ((rd_T90 l3 x43_2).f0)))), (x11_3), (wrap64 (x43_2 + 1)), ze, ze, H', ⟨by have := HJ5.out; have := HK2.out; have := HK3.out; omega⟩, ⟨zr HO_11⟩, ⟨zy BK197⟩, ⟨by repeat (first | (with_reducible first | exact HB.out | apply below_alloc | apply pw_below_drewN | apply below_drew1 | refine below_set ?_ GE197.out | refine below_set ?_ GE202.out) | exact HB.out)⟩⟩
           ·rw [if_neg c41] at H
            exact absurd H (by simp)
         ·replace c34 := Bool.eq_false_iff.mpr c34
          subst c34
          have H1 : (some ([] : List (S34))) = some r := by rw [if_neg (show ¬ (false = true) by decide)] at H; exact H
          clear H
          have H := H1
          clear H1
          obtain rfl := Option.some.inj H
          have p201 : 0 ≤ (x43_2 : Int) := of_decide_eq_true (by first | (with_reducible assumption) | assumption)
          have q201 : x43_2 < (l3.length : Int) := of_decide_eq_true (by first | (with_reducible assumption) | assumption)
          obtain ⟨ad201, e201, hx201_0, hx201_1⟩ := at_T90 HR3.out x43_2 p201 q201
          cases e201
          replace hx201_0 := (HB.out.cell (World.block_lt_of_cell? w _ hx201_0)).trans hx201_0
          replace hx201_1 := (HB.out.cell (World.block_lt_of_cell? w _ hx201_1)).trans hx201_1
          replace p201 := eq_true p201
          replace q201 := eq_true q201
          go_wp2_with (first | ((with_reducible refine gate_dst (N := 13) rfl ?_); (try (refine gate_guard (by rfl) ?_; dsimp only)); refine zx 13 #[.int .i64 0, .int .i64 0] 90 ?_; intro gb202 hg w74 hbox hb; have BK202 := Aside0.mk (hbox); have GW202 := zge HB hg; have GE202 := GW202; have NB197_202 := zl BK197 hg; have NB202_197 := zg BK197 hg; replace BK197 := zb BK197 hb; replace HB := zB HB hb; replace HO_11 := Aside0.mk (Kd.R_below (zr HO_11) hb); clear hb hbox hg; have hnb75 := NB202_197.out; have hnc75 := NB197_202.out; obtain ⟨hcz76_0, hcz76_1, hfz76_0, hfz76_1⟩ := zs2 BK202) | ((with_reducible refine gate_callee (f := 87) rfl ?_); refine zL (some 49) Try.func87 #[.agg #[.int .i64 ((rd_T90 l3 x43_2).f0), .int .i64 ((rd_T90 l3 x43_2).f1)]] ?_; (with_reducible refine (spec_l4true.calls ((rd_T90 l3 x43_2).f0) ((rd_T90 l3 x43_2).f1) false _ A33.out).mono ?_); rintro e w77 ⟨rfl, hb⟩; refine ⟨_, rfl, ?_⟩; have n0_ := Aside0.mk (Kd.R_below (by (with_reducible repeat (first | apply Kd.R_alloc | apply Kd.R_drewN | apply Kd.R_drew)); exact (Kd.R_mono (Kd.R_far (p := ⟨gb202, 1, none⟩) (Kd.R_far (p := ⟨gb202, 0, none⟩) (Kd.R_types HO_11.out BK202.out (by decide)) (fun _ hk => hk.2) (.int .i64 ((rd_T90 l3 x43_2).f0))) (fun _ hk => hk.2) (.int .i64 ((rd_T90 l3 x43_2).f1))) (fun _ h_ => h_.1))) hb); have n1_ := Aside0.mk (blk_below (g := gb197) (o := .cells #[.int .i64 a0_0, .int .i64 a0_1, .int .i64 a0_2, .int .i64 a0_3, .int .i64 a0_4] 24 (0, 0)) (by (with_reducible repeat (first | refine blk_drewN ?_ _ | refine blk_drew ?_ | refine blk_alloc ?_ _)); refine blk_far ?_ NB197_202.out _; (with_reducible repeat (first | refine blk_drewN ?_ _ | refine blk_drew ?_ | refine blk_alloc ?_ _)); refine blk_far ?_ NB197_202.out _; (with_reducible repeat (first | refine blk_drewN ?_ _ | refine blk_drew ?_ | refine blk_alloc ?_ _)); exact BK197.out) hb); have n2_ := Aside0.mk (blk_below (g := gb202) (o := .cells #[.int .i64 ((rd_T90 l3 x43_2).f0), .int .i64 ((rd_T90 l3 x43_2).f1)] 90 (0, 0)) (by (with_reducible repeat (first | refine blk_drewN ?_ _ | refine blk_drew ?_ | refine blk_alloc ?_ _)); refine blk_put (cs := #[.int .i64 ((rd_T90 l3 x43_2).f0), .int .i64 0]) ?_ 1 _ rfl; (with_reducible repeat (first | refine blk_drewN ?_ _ | refine blk_drew ?_ | refine blk_alloc ?_ _)); refine blk_put (cs := #[.int .i64 0, .int .i64 0]) ?_ 0 _ rfl; (with_reducible repeat (first | refine blk_drewN ?_ _ | refine blk_drew ?_ | refine blk_alloc ?_ _)); exact BK202.out) hb); have n3_ := Aside0.mk (below_step (by repeat (first | (with_reducible first | exact HB.out | apply below_alloc | apply pw_below_drewN | apply below_drew1 | refine below_set ?_ GE197.out | refine below_set ?_ GE202.out) | exact HB.out)) hb); clear HO_11 BK197 BK202 HB; have HO_11 := n0_; have BK197 := n1_; have BK202 := n2_; have HB := n3_; clear n0_ n1_ n2_ n3_; (try clear hb)))
          go_ret
          exact ⟨_, by first | rfl | (simp [errW_none, errW_some] <;> rfl) | (simp [*, errW_none, errW_some] <;> rfl), by first | exact Kd.R_nil _ _ _ _ _ | exact Kd.N_nil _ _ _ _ _ | exact Kd.V_nil _ _ _ _ _ | exact Kd.Q_nil _ _ _ _ _ | exact Kd.S_nil _ _ _ _ _, by repeat (first | (with_reducible first | exact HB.out | apply below_alloc | apply pw_below_drewN | apply below_drew1 | refine below_set ?_ GE197.out | refine below_set ?_ GE202.out) | exact HB.out)⟩
        ·rw [if_neg c32] at H
         exact absurd H (by simp)
       ·rw [if_neg c31] at H
        exact absurd H (by simp)
      ·rw [if_neg c30] at H
       have c30b0 : decide (x43_2 < (l3.length : Int)) = false := decide_eq_false c30
       clear c30
       by_cases c78 : (x11_2.length : Int) > 2000
       ·rw [if_pos c78] at H
        have c78b0 : decide (2000 < (x11_2.length : Int)) = true := decide_eq_true c78
        have c78b1 : decide (2000 < x11_2.length) = true := decide_eq_true (by omega)
        clear c78
        obtain rfl := Option.some.inj H
        obtain ⟨Ao79, co79, eo79⟩ := Kd.R_slice HO_11.out
        subst eo79
        go_wp2
        go_ret
        exact ⟨_, by first | rfl | (simp [errW_none, errW_some] <;> rfl) | (simp [*, errW_none, errW_some] <;> rfl), by first | exact Kd.R_nil _ _ _ _ _ | exact Kd.N_nil _ _ _ _ _ | exact Kd.V_nil _ _ _ _ _ | exact Kd.Q_nil _ _ _ _ _ | exact Kd.S_nil _ _ _ _ _, by repeat (first | (with_reducible first | exact HB.out | apply below_alloc | apply pw_below_drewN | apply below_drew1 | refine below_set ?_ GE197.out) | exact HB.out)⟩
       ·rw [if_neg c78] at H
        have c78b0 : decide (2000 < (x11_2.length : Int)) = false := decide_eq_false c78
        have c78b1 : decide (2000 < x11_2.length) = false := decide_eq_false (by omega)
        clear c78
        obtain rfl := Option.some.inj H
        obtain ⟨Ao80, co80, eo80⟩ := Kd.R_slice HO_11.out
        subst eo80
        go_wp2
        go_ret
        exact ⟨_, by first | rfl | (simp [errW_none, errW_some] <;> rfl) | (simp [*, errW_none, errW_some] <;> rfl), by (with_reducible repeat (first | apply Kd.R_alloc | apply Kd.R_drewN | apply Kd.R_drew)); exact HO_11.out, by repeat (first | (with_reducible first | exact HB.out | apply below_alloc | apply pw_below_drewN | apply below_drew1 | refine below_set ?_ GE197.out) | exact HB.out)⟩

end Go.Proofs.Ytommdabkkgcgbaa.QFnTrue
