-- Written by a program of this session (wip/tools/turnprint.py over the kit's print), for this claim: functions as plain Lean and their contracts.
import Derived.Test.YtommdabkkgcgbaaQFnWidex0
import Derived.Test.YtommdabkkgcgbaaQFnWidex2
import Derived.Test.YtommdabkkgcgbaaQFnWidex6
import Derived.Test.YtommdabkkgcgbaaQFnWidex7
namespace Go.Proofs.Ytommdabkkgcgbaa.QFnWide
open Go.RowKit Go.Proofs.YtommdabkkgcgbaaW.PrintWords Go.Proofs.YtommdabkkgcgbaaW.PrintLast Go.Proofs.YtommdabkkgcgbaaW.PrintMore
attribute [local go_sem] max2_int min2_int max_two min_two max_three min_three max_four min_four   -- for this text's walks alone
set_option linter.unusedVariables false
set_option linter.unusedSimpArgs false

/-! ### laws_FnWide: function 11 -/
def laws_FnWide.j0 : Nat → List Int → List Int → Bool → Option (Bool)
  | 0, _, _, _ => none
  | k + 1, x0, x1, x19 => if x19 = true then (some true) else ((spec_Known.f k x0).bind fun bt282 => (if (bt282.2.2.2.2.2.1.length : Int) = 0 then ((impl_Wide.f bt282.1 bt282.2.1 bt282.2.2.1 bt282.2.2.2.1 bt282.2.2.2.2.1 bt282.2.2.2.2.2.1 0).bind fun t298 => ((spec_Wide.f k bt282.1 bt282.2.1 bt282.2.2.1 bt282.2.2.2.1 bt282.2.2.2.2.1 bt282.2.2.2.2.2.1 0).bind fun t299 => (some (t298 == t299)))) else ((laws_wByte.f x1 0).bind fun t300 => ((laws_wByte.f x1 1).bind fun t301 => ((laws_wByte.f x1 2).bind fun t302 => (if 0 ≤ (Int.tmod t300 (bt282.2.2.2.2.2.1.length : Int)) then (if (Int.tmod t300 (bt282.2.2.2.2.2.1.length : Int)) < (bt282.2.2.2.2.2.1.length : Int) then ((impl_Do.f k bt282.1 bt282.2.1 bt282.2.2.1 bt282.2.2.2.1 bt282.2.2.2.2.1 bt282.2.2.2.2.2.1 false 0 0 bt282.2.2.2.2.2.2.2.2.2.1 bt282.2.2.2.2.2.2.2.2.2.2.1 bt282.2.2.2.2.2.2.2.2.2.2.2 2 ((rd_T37 bt282.2.2.2.2.2.1 (Int.tmod t300 (bt282.2.2.2.2.2.1.length : Int))).f0)).bind fun bt304 => ((impl_Do.f k bt282.1 bt282.2.1 bt282.2.2.1 bt282.2.2.2.1 bt282.2.2.2.2.1 bt282.2.2.2.2.2.1 bt304.1 bt304.2.1 bt304.2.2.1 bt304.2.2.2.1 bt304.2.2.2.2.1 bt304.2.2.2.2.2 1 (Int.tmod (wrap64 (t301 + (wrap64 (256 * t302)))) 3000)).bind fun bt311 => (if bt304.1 = true then ((impl_Wide.f bt282.1 bt282.2.1 bt282.2.2.1 bt282.2.2.2.1 bt282.2.2.2.2.1 bt282.2.2.2.2.2.1 (Int.tmod (wrap64 (t301 + (wrap64 (256 * t302)))) 3000)).bind fun t318 => (if (wrap64 (bt311.2.2.1 - bt311.2.1)) = t318 then (some (bt311.2.2.2.1 == (Int.tmod (wrap64 (t301 + (wrap64 (256 * t302)))) 3000))) else (some false))) else (some false)))) else (none)) else (none)))))))
def laws_FnWide.f (k : Nat) (l0 : List Int) (l1 : List Int) : Option (Bool) := if (l0.length : Int) > 1048576 then (laws_FnWide.j0 k l0 l1 true) else (laws_FnWide.j0 k l0 l1 (decide ((l1.length : Int) > 1048576)))
theorem laws_FnWide.mono_l : ∀ k, (∀ y0 y1 y2, LeO (laws_FnWide.j0 k y0 y1 y2) (laws_FnWide.j0 (k + 1) y0 y1 y2))
  | 0 => fun _ _ _ r h => by simp [laws_FnWide.j0] at h
  | k + 1 => by
    have ih0 := laws_FnWide.mono_l k
    · intro y0 y1 y2
      unfold laws_FnWide.j0
      repeat' first
      | (with_reducible exact ih0 _ _ _)
      | (with_reducible exact impl_Do.mono _ _ _ _ _ _ _ _ _ _ _ _ _ _ _)
      | (with_reducible exact spec_Known.mono _ _)
      | (with_reducible exact spec_Wide.mono _ _ _ _ _ _ _ _)
      | (with_reducible exact LeO.refl _)
      | (with_reducible exact LeO.none _)
      | (with_reducible refine LeO.ite ?_ ?_)
      | (with_reducible refine LeO.bind ?_ (fun _ => ?_))
      | exact ih0 _ _ _
      | exact impl_Do.mono _ _ _ _ _ _ _ _ _ _ _ _ _ _ _
      | exact spec_Known.mono _ _
      | exact spec_Wide.mono _ _ _ _ _ _ _ _
      | exact LeO.none _
      | refine LeO.ite ?_ ?_
      | refine LeO.bind ?_ (fun _ => ?_)
theorem laws_FnWide.mono : ∀ a0 a1 k, LeO (laws_FnWide.f k a0 a1) (laws_FnWide.f (k + 1) a0 a1) := by
  intro a0 a1 k
  have ih0 := laws_FnWide.mono_l k
  unfold laws_FnWide.f
  repeat' first
      | (with_reducible exact ih0 _ _ _)
      | (with_reducible exact impl_Do.mono _ _ _ _ _ _ _ _ _ _ _ _ _ _ _)
      | (with_reducible exact spec_Known.mono _ _)
      | (with_reducible exact spec_Wide.mono _ _ _ _ _ _ _ _)
      | (with_reducible exact LeO.refl _)
      | (with_reducible exact LeO.none _)
      | (with_reducible refine LeO.ite ?_ ?_)
      | (with_reducible refine LeO.bind ?_ (fun _ => ?_))
      | exact ih0 _ _ _
      | exact impl_Do.mono _ _ _ _ _ _ _ _ _ _ _ _ _ _ _
      | exact spec_Known.mono _ _
      | exact spec_Wide.mono _ _ _ _ _ _ _ _
      | exact LeO.none _
      | refine LeO.ite ?_ ?_
      | refine LeO.bind ?_ (fun _ => ?_)
def laws_FnWide.T5 : Bool × List (List Nat × List Nat) := (true, [([], []), ([], []), ([0, 1], [0, 1]), ([], []), ([], []), ([3, 4, 2], [3, 4]), ([2, 5], [2, 5]), ([6, 5, 0, 1, 2, 3, 4, 5, 6], [6])])
def laws_FnWide.B5 : List Nat := [0, 0, 3, 0, 0, 31, 63, 127]
theorem laws_FnWide.tab5 : rtab .any (opsOf Try.f11 5) = laws_FnWide.T5 := by kernel_rfl
theorem laws_FnWide.bits5 : waitsOk laws_FnWide.T5.2 laws_FnWide.B5 = true := by kernel_rfl
def laws_FnWide.T10 : Bool × List (List Nat × List Nat) := (true, [([], []), ([], []), ([], []), ([], []), ([], []), ([3, 4], [3, 4]), ([5], [5]), ([6], [6]), ([7], [7]), ([0, 1, 2, 8], [0, 1, 2, 8]), ([], []), ([10, 9, 9, 0, 1, 2, 3, 4, 5, 6, 7, 8, 9, 10], [9, 10])])
def laws_FnWide.B10 : List Nat := [0, 0, 0, 0, 0, 24, 56, 120, 248, 511, 0, 2047]
theorem laws_FnWide.tab10 : rtab .any (opsOf Try.f11 10) = laws_FnWide.T10 := by kernel_rfl
theorem laws_FnWide.bits10 : waitsOk laws_FnWide.T10.2 laws_FnWide.B10 = true := by kernel_rfl
def laws_FnWide.T12 : Bool × List (List Nat × List Nat) := (true, [([], []), ([0], [0]), ([1], [1]), ([2], [2]), ([3, 2], [2, 3]), ([4, 2], [2, 4]), ([2], [2]), ([6, 2], [2, 6]), ([7, 2], [2, 7]), ([5, 8, 2], [2, 5, 8]), ([2], [2]), ([2], [2]), ([2], [2]), ([10, 11, 12, 2, 2], [2, 10, 11, 12]), ([9, 13, 2], [2, 9, 13]), ([2, 14], [2, 14]), ([15, 13], [15]), ([16], [16]), ([17, 16], [16, 17]), ([16], [16]), ([18, 19, 16], [16, 18, 19]), ([16, 20], [16, 20]), ([21, 16, 0, 1, 2, 3, 4, 5, 6, 7, 8, 9, 10, 11, 12, 13, 14, 15, 16, 17, 18, 19, 20, 21], [21])])
def laws_FnWide.B12 : List Nat := [0, 1, 3, 7, 15, 31, 7, 71, 199, 511, 7, 7, 7, 7175, 16383, 32767, 65535, 131071, 262143, 131071, 1048575, 2097151, 4194303]
theorem laws_FnWide.tab12 : rtab .any (opsOf Try.f11 12) = laws_FnWide.T12 := by kernel_rfl
theorem laws_FnWide.bits12 : waitsOk laws_FnWide.T12.2 laws_FnWide.B12 = true := by kernel_rfl
set_option maxHeartbeats 8000000 in
set_option maxRecDepth 100000 in
theorem laws_FnWide.calls (k : Nat) (A0 : Option Addr) (c0 : Nat) (l0 : List Int) (A1 : Option Addr) (c1 : Nat) (l1 : List Int) (r : Bool) (w : World) (hr0 : Kd.C (Kd.int .u8) w A0 l0.length l0) (hc0 : l0.length ≤ c0) (hr1 : Kd.C (Kd.int .u8) w A1 l1.length l1) (hc1 : l1.length ≤ c1) (h : laws_FnWide.f k l0 l1 = some r) (HT : Aside0 (r = true)) :
    Calls Try.prog 11 #[.slice A0 l0.length c0, .slice A1 l1.length c1] w fun e w' => e = .returned (.bool r) ∧ Below w.heap.size w w' := by
  have hu24 := Try.underlying24
  have hu29 := Try.underlying29
  have hu27 := Try.underlying27
  have hu34 := Try.underlying34
  have HR0 := Aside0.mk hr0
  have HC0 := Aside0.mk hc0
  clear hr0 hc0
  have HR1 := Aside0.mk hr1
  have HC1 := Aside0.mk hc1
  clear hr1 hc1
  have HB := Aside0.mk (Below.refl w.heap.size w)
  have H : (if (l0.length : Int) > 1048576 then (laws_FnWide.j0 k l0 l1 true) else (laws_FnWide.j0 k l0 l1 (decide ((l1.length : Int) > 1048576)))) = some r := h
  clear h
  have HC3 := Aside0.mk H
  clear H
  go_enter Try.func11, Try.ntmps11
  go_upto_region 1 with (fail)
  go_cut [19] (fun v19 wc => ∃ (kq : Nat) (x19_2 : Bool), v19 = .bool x19_2 ∧ Aside0 (laws_FnWide.j0 kq l0 l1 x19_2 = some r) ∧ Aside0 (kq ≤ k) ∧ Aside0 (Below w.heap.size w wc))
  case first =>
    have H := HC3.out
    clear HC3
    by_cases c4 : (l0.length : Int) > 1048576
    · rw [if_pos c4] at H
      have c4b0 : decide (1048576 < (l0.length : Int)) = true := decide_eq_true c4
      have c4b1 : decide (1048576 < l0.length) = true := decide_eq_true (by omega)
      clear c4
      (first | rw [c4b0] | (simp only [i64_w, i32_w]; rw [c4b0]) | skip)
      have H' := Aside0.mk H
      clear H
      go_wp2
      go_meet
      case rel => exact ⟨_, (true), ze, H', ⟨by first | omega | exact Nat.le_refl _⟩, ⟨zh HB⟩⟩
    · rw [if_neg c4] at H
      have c4b0 : decide (1048576 < (l0.length : Int)) = false := decide_eq_false c4
      have c4b1 : decide (1048576 < l0.length) = false := decide_eq_false (by omega)
      clear c4
      (first | rw [c4b0] | (simp only [i64_w, i32_w]; rw [c4b0]) | skip)
      have H' := Aside0.mk H
      clear H
      go_wp2
      go_meet
      case rel => exact ⟨_, (decide ((l1.length : Int) > 1048576)), ze, H', ⟨by first | omega | exact Nat.le_refl _⟩, ⟨zh HB⟩⟩
  case rest =>
    clear HC3
    (try clear c1); (try clear p2); (try clear c4); (try clear c4b0); (try clear c4b1)
    obtain ⟨kq, x19_2, rfl, HA, HJ2, HB⟩ := hcut
    cases kq with
    | zero => exact absurd HA.out (by simp [laws_FnWide.j0])
    | succ kj2 =>
      have H := HA.out
      clear HA
      simp only [laws_FnWide.j0] at H
      by_cases c5 : x19_2 = true
      · subst c5
        have H1 : (some true) = some r := by rw [if_pos rfl] at H; exact H
        clear H
        have H := H1
        clear H1
        obtain rfl := Option.some.inj H
        go_wp2
        go_ret
        exact ⟨by first | rfl | (simp [errW_none, errW_some] <;> rfl) | (simp [*, errW_none, errW_some] <;> rfl), by repeat (first | (with_reducible first | exact HB.out | apply below_alloc | apply pw_below_drewN | apply below_drew1) | exact HB.out)⟩
      · replace c5 := Bool.eq_false_iff.mpr c5
        subst c5
        have H1 : ((spec_Known.f kj2 l0).bind fun bt282 => (if (bt282.2.2.2.2.2.1.length : Int) = 0 then ((impl_Wide.f bt282.1 bt282.2.1 bt282.2.2.1 bt282.2.2.2.1 bt282.2.2.2.2.1 bt282.2.2.2.2.2.1 0).bind fun t298 => ((spec_Wide.f kj2 bt282.1 bt282.2.1 bt282.2.2.1 bt282.2.2.2.1 bt282.2.2.2.2.1 bt282.2.2.2.2.2.1 0).bind fun t299 => (some (t298 == t299)))) else ((laws_wByte.f l1 0).bind fun t300 => ((laws_wByte.f l1 1).bind fun t301 => ((laws_wByte.f l1 2).bind fun t302 => (if 0 ≤ (Int.tmod t300 (bt282.2.2.2.2.2.1.length : Int)) then (if (Int.tmod t300 (bt282.2.2.2.2.2.1.length : Int)) < (bt282.2.2.2.2.2.1.length : Int) then ((impl_Do.f kj2 bt282.1 bt282.2.1 bt282.2.2.1 bt282.2.2.2.1 bt282.2.2.2.2.1 bt282.2.2.2.2.2.1 false 0 0 bt282.2.2.2.2.2.2.2.2.2.1 bt282.2.2.2.2.2.2.2.2.2.2.1 bt282.2.2.2.2.2.2.2.2.2.2.2 2 ((rd_T37 bt282.2.2.2.2.2.1 (Int.tmod t300 (bt282.2.2.2.2.2.1.length : Int))).f0)).bind fun bt304 => ((impl_Do.f kj2 bt282.1 bt282.2.1 bt282.2.2.1 bt282.2.2.2.1 bt282.2.2.2.2.1 bt282.2.2.2.2.2.1 bt304.1 bt304.2.1 bt304.2.2.1 bt304.2.2.2.1 bt304.2.2.2.2.1 bt304.2.2.2.2.2 1 (Int.tmod (wrap64 (t301 + (wrap64 (256 * t302)))) 3000)).bind fun bt311 => (if bt304.1 = true then ((impl_Wide.f bt282.1 bt282.2.1 bt282.2.2.1 bt282.2.2.2.1 bt282.2.2.2.2.1 bt282.2.2.2.2.2.1 (Int.tmod (wrap64 (t301 + (wrap64 (256 * t302)))) 3000)).bind fun t318 => (if (wrap64 (bt311.2.2.1 - bt311.2.1)) = t318 then (some (bt311.2.2.2.1 == (Int.tmod (wrap64 (t301 + (wrap64 (256 * t302)))) 3000))) else (some false))) else (some false)))) else (none)) else (none))))))) = some r := by rw [if_neg (show ¬ (false = true) by decide)] at H; exact H
        clear H
        have H := H1
        clear H1
        replace H := Option.bind_eq_some_iff.mp H
        obtain ⟨⟨t282, t283, t284, t285, t286, t287, t290, t291, t292, t293, t294, t295⟩, A60, H⟩ := H
        replace H : (if (t287.length : Int) = 0 then ((impl_Wide.f t282 t283 t284 t285 t286 t287 0).bind fun t298 => ((spec_Wide.f kj2 t282 t283 t284 t285 t286 t287 0).bind fun t299 => (some (t298 == t299)))) else ((laws_wByte.f l1 0).bind fun t300 => ((laws_wByte.f l1 1).bind fun t301 => ((laws_wByte.f l1 2).bind fun t302 => (if 0 ≤ (Int.tmod t300 (t287.length : Int)) then (if (Int.tmod t300 (t287.length : Int)) < (t287.length : Int) then ((impl_Do.f kj2 t282 t283 t284 t285 t286 t287 false 0 0 t293 t294 t295 2 ((rd_T37 t287 (Int.tmod t300 (t287.length : Int))).f0)).bind fun bt304 => ((impl_Do.f kj2 t282 t283 t284 t285 t286 t287 bt304.1 bt304.2.1 bt304.2.2.1 bt304.2.2.2.1 bt304.2.2.2.2.1 bt304.2.2.2.2.2 1 (Int.tmod (wrap64 (t301 + (wrap64 (256 * t302)))) 3000)).bind fun bt311 => (if bt304.1 = true then ((impl_Wide.f t282 t283 t284 t285 t286 t287 (Int.tmod (wrap64 (t301 + (wrap64 (256 * t302)))) 3000)).bind fun t318 => (if (wrap64 (bt311.2.2.1 - bt311.2.1)) = t318 then (some (bt311.2.2.2.1 == (Int.tmod (wrap64 (t301 + (wrap64 (256 * t302)))) 3000))) else (some false))) else (some false)))) else (none)) else (none)))))) = some r := H
        have A6 := Aside0.mk A60
        clear A60
        by_cases c7 : (t287.length : Int) = 0
        · rw [if_pos c7] at H
          have c7b0 : ((t287.length : Int) == 0) = true := beq_iff_eq.mpr c7
          have c7b1 : ((t287.length : Int) != 0) = false := bne_eq_false_iff_eq.mpr c7
          clear c7
          replace H := Option.bind_eq_some_iff.mp H
          obtain ⟨t298, A80, H⟩ := H
          replace H : ((spec_Wide.f kj2 t282 t283 t284 t285 t286 t287 0).bind fun t299 => (some (t298 == t299))) = some r := H
          have A8 := Aside0.mk A80
          clear A80
          replace H := Option.bind_eq_some_iff.mp H
          obtain ⟨t299, A90, H⟩ := H
          replace H : (some (t298 == t299)) = some r := H
          have A9 := Aside0.mk A90
          clear A90
          obtain rfl := Option.some.inj H
          try go_wp2_with (first | ((with_reducible refine gate_callee (f := 14) rfl ?_); refine zL (some 22) Try.func14 #[.slice A0 l0.length c0] ?_; (with_reducible refine (spec_Known.calls kj2 _ _ l0 t282 t283 t284 t285 t286 t287 t290 t291 t292 t293 t294 t295 _ ?side1 ?side2 A6.out).mono ?_); (case side1 => repeat (first | exact (Kd.C_below HR0.out HB.out) | (with_reducible refine Kd.C_alloc ?_ _) | (with_reducible refine Kd.C_drewN ?_ _) | (with_reducible refine Kd.C_drew ?_))); (case side2 => exact HC0.out); rintro e w10 ⟨v288, rfl, ho0, hb⟩; refine ⟨_, rfl, ?_⟩; have HO289 := Aside0.mk (Kd.R_lower ho0 (below_size (zh HB))); replace HB := zB HB hb; (try clear hb); (try clear ho0)) | ((with_reducible refine gate_dst (N := 5) rfl ?_); (try (refine gate_guard (by rfl) ?_; dsimp only)); refine zx 5 #[.int .i64 0, .int .i64 0, .int .i64 0, .int .i64 0, .int .i64 0] 24 ?_; intro gb296 hg w11 hbox hb; have BK296 := Aside0.mk (hbox); have GW296 := zge HB hg; have GE296 := GW296; replace HB := zB HB hb; replace HO289 := Aside0.mk (Kd.R_below (zr HO289) hb); clear hb hbox hg) | ((with_reducible refine gate_dst (N := 7) rfl ?_); (try (refine gate_guard (by rfl) ?_; dsimp only)); refine zx 7 #[.bool false, .int .i64 0, .int .i64 0, .int .i64 0, .int .i64 0, .int .i64 0] 29 ?_; intro gb297 hg w12 hbox hb; have BK297 := Aside0.mk (hbox); have GW297 := zge HB hg; have GE297 := GW297; have NB296_297 := zl BK296 hg; have NB297_296 := zg BK296 hg; replace BK296 := zb BK296 hb; replace HB := zB HB hb; replace HO289 := Aside0.mk (Kd.R_below (zr HO289) hb); clear hb hbox hg; have hnb13 := NB296_297.out; have hnc13 := NB297_296.out; obtain ⟨hcz14_0, hcz14_1, hcz14_2, hcz14_3, hcz14_4, hfz14_0, hfz14_1, hfz14_2, hfz14_3, hfz14_4⟩ := zs5 BK296; obtain ⟨hcz15_0, hcz15_1, hcz15_2, hcz15_3, hcz15_4, hcz15_5, hfz15_0, hfz15_1, hfz15_2, hfz15_3, hfz15_4, hfz15_5⟩ := zs6 BK297; obtain ⟨Ao16, co16, eo16⟩ := Kd.R_slice HO289.out; subst eo16))
          (repeat rw [zD])
          have n0_ : Aside0 (Kd.R k37 37 (((((((((((w12.setCell ⟨gb296, 0, none⟩ (.int .i64 t282)).setCell ⟨gb296, 1, none⟩ (.int .i64 t283)).setCell ⟨gb296, 2, none⟩ (.int .i64 t284)).setCell ⟨gb296, 3, none⟩ (.int .i64 t285)).setCell ⟨gb296, 4, none⟩ (.int .i64 t286)).setCell ⟨gb297, 0, none⟩ (.bool t290)).setCell ⟨gb297, 1, none⟩ (.int .i64 t291)).setCell ⟨gb297, 2, none⟩ (.int .i64 t292)).setCell ⟨gb297, 3, none⟩ (.int .i64 t293)).setCell ⟨gb297, 4, none⟩ (.int .i64 t294)).setCell ⟨gb297, 5, none⟩ (.int .i64 t295)) w.heap.size (fun _ => True) (.slice Ao16 t287.length co16) t287) := ⟨by (with_reducible repeat (first | apply Kd.R_alloc | apply Kd.R_drewN | apply Kd.R_drew)); exact Kd.R_mono (Kd.R_far (p := ⟨gb297, 5, none⟩) (Kd.R_far (p := ⟨gb297, 4, none⟩) (Kd.R_far (p := ⟨gb297, 3, none⟩) (Kd.R_far (p := ⟨gb297, 2, none⟩) (Kd.R_far (p := ⟨gb297, 1, none⟩) (Kd.R_far (p := ⟨gb297, 0, none⟩) (Kd.R_far (p := ⟨gb296, 4, none⟩) (Kd.R_far (p := ⟨gb296, 3, none⟩) (Kd.R_far (p := ⟨gb296, 2, none⟩) (Kd.R_far (p := ⟨gb296, 1, none⟩) (Kd.R_far (p := ⟨gb296, 0, none⟩) (Kd.R_types (Kd.R_types HO289.out BK296.out (by decide)) BK297.out (by decide)) (fun _ hk => hk.1.2) (.int .i64 t282)) (fun _ hk => hk.1.2) (.int .i64 t283)) (fun _ hk => hk.1.2) (.int .i64 t284)) (fun _ hk => hk.1.2) (.int .i64 t285)) (fun _ hk => hk.1.2) (.int .i64 t286)) (fun _ hk => hk.2) (.bool t290)) (fun _ hk => hk.2) (.int .i64 t291)) (fun _ hk => hk.2) (.int .i64 t292)) (fun _ hk => hk.2) (.int .i64 t293)) (fun _ hk => hk.2) (.int .i64 t294)) (fun _ hk => hk.2) (.int .i64 t295)) (fun _ hk => trivial)⟩
          have n1_ : Aside0 ((((((((((((w12.setCell ⟨gb296, 0, none⟩ (.int .i64 t282)).setCell ⟨gb296, 1, none⟩ (.int .i64 t283)).setCell ⟨gb296, 2, none⟩ (.int .i64 t284)).setCell ⟨gb296, 3, none⟩ (.int .i64 t285)).setCell ⟨gb296, 4, none⟩ (.int .i64 t286)).setCell ⟨gb297, 0, none⟩ (.bool t290)).setCell ⟨gb297, 1, none⟩ (.int .i64 t291)).setCell ⟨gb297, 2, none⟩ (.int .i64 t292)).setCell ⟨gb297, 3, none⟩ (.int .i64 t293)).setCell ⟨gb297, 4, none⟩ (.int .i64 t294)).setCell ⟨gb297, 5, none⟩ (.int .i64 t295)).heap[gb296]? = some (.cells #[.int .i64 t282, .int .i64 t283, .int .i64 t284, .int .i64 t285, .int .i64 t286] 24 (0, 0))) := ⟨by (with_reducible repeat (first | refine blk_drewN ?_ _ | refine blk_drew ?_ | refine blk_alloc ?_ _)); refine blk_far ?_ NB296_297.out _; (with_reducible repeat (first | refine blk_drewN ?_ _ | refine blk_drew ?_ | refine blk_alloc ?_ _)); refine blk_far ?_ NB296_297.out _; (with_reducible repeat (first | refine blk_drewN ?_ _ | refine blk_drew ?_ | refine blk_alloc ?_ _)); refine blk_far ?_ NB296_297.out _; (with_reducible repeat (first | refine blk_drewN ?_ _ | refine blk_drew ?_ | refine blk_alloc ?_ _)); refine blk_far ?_ NB296_297.out _; (with_reducible repeat (first | refine blk_drewN ?_ _ | refine blk_drew ?_ | refine blk_alloc ?_ _)); refine blk_far ?_ NB296_297.out _; (with_reducible repeat (first | refine blk_drewN ?_ _ | refine blk_drew ?_ | refine blk_alloc ?_ _)); refine blk_far ?_ NB296_297.out _; (with_reducible repeat (first | refine blk_drewN ?_ _ | refine blk_drew ?_ | refine blk_alloc ?_ _)); refine blk_put (cs := #[.int .i64 t282, .int .i64 t283, .int .i64 t284, .int .i64 t285, .int .i64 0]) ?_ 4 _ rfl; (with_reducible repeat (first | refine blk_drewN ?_ _ | refine blk_drew ?_ | refine blk_alloc ?_ _)); refine blk_put (cs := #[.int .i64 t282, .int .i64 t283, .int .i64 t284, .int .i64 0, .int .i64 0]) ?_ 3 _ rfl; (with_reducible repeat (first | refine blk_drewN ?_ _ | refine blk_drew ?_ | refine blk_alloc ?_ _)); refine blk_put (cs := #[.int .i64 t282, .int .i64 t283, .int .i64 0, .int .i64 0, .int .i64 0]) ?_ 2 _ rfl; (with_reducible repeat (first | refine blk_drewN ?_ _ | refine blk_drew ?_ | refine blk_alloc ?_ _)); refine blk_put (cs := #[.int .i64 t282, .int .i64 0, .int .i64 0, .int .i64 0, .int .i64 0]) ?_ 1 _ rfl; (with_reducible repeat (first | refine blk_drewN ?_ _ | refine blk_drew ?_ | refine blk_alloc ?_ _)); refine blk_put (cs := #[.int .i64 0, .int .i64 0, .int .i64 0, .int .i64 0, .int .i64 0]) ?_ 0 _ rfl; (with_reducible repeat (first | refine blk_drewN ?_ _ | refine blk_drew ?_ | refine blk_alloc ?_ _)); exact BK296.out⟩
          have n2_ : Aside0 ((((((((((((w12.setCell ⟨gb296, 0, none⟩ (.int .i64 t282)).setCell ⟨gb296, 1, none⟩ (.int .i64 t283)).setCell ⟨gb296, 2, none⟩ (.int .i64 t284)).setCell ⟨gb296, 3, none⟩ (.int .i64 t285)).setCell ⟨gb296, 4, none⟩ (.int .i64 t286)).setCell ⟨gb297, 0, none⟩ (.bool t290)).setCell ⟨gb297, 1, none⟩ (.int .i64 t291)).setCell ⟨gb297, 2, none⟩ (.int .i64 t292)).setCell ⟨gb297, 3, none⟩ (.int .i64 t293)).setCell ⟨gb297, 4, none⟩ (.int .i64 t294)).setCell ⟨gb297, 5, none⟩ (.int .i64 t295)).heap[gb297]? = some (.cells #[.bool t290, .int .i64 t291, .int .i64 t292, .int .i64 t293, .int .i64 t294, .int .i64 t295] 29 (0, 0))) := ⟨by (with_reducible repeat (first | refine blk_drewN ?_ _ | refine blk_drew ?_ | refine blk_alloc ?_ _)); refine blk_put (cs := #[.bool t290, .int .i64 t291, .int .i64 t292, .int .i64 t293, .int .i64 t294, .int .i64 0]) ?_ 5 _ rfl; (with_reducible repeat (first | refine blk_drewN ?_ _ | refine blk_drew ?_ | refine blk_alloc ?_ _)); refine blk_put (cs := #[.bool t290, .int .i64 t291, .int .i64 t292, .int .i64 t293, .int .i64 0, .int .i64 0]) ?_ 4 _ rfl; (with_reducible repeat (first | refine blk_drewN ?_ _ | refine blk_drew ?_ | refine blk_alloc ?_ _)); refine blk_put (cs := #[.bool t290, .int .i64 t291, .int .i64 t292, .int .i64 0, .int .i64 0, .int .i64 0]) ?_ 3 _ rfl; (with_reducible repeat (first | refine blk_drewN ?_ _ | refine blk_drew ?_ | refine blk_alloc ?_ _)); refine blk_put (cs := #[.bool t290, .int .i64 t291, .int .i64 0, .int .i64 0, .int .i64 0, .int .i64 0]) ?_ 2 _ rfl; (with_reducible repeat (first | refine blk_drewN ?_ _ | refine blk_drew ?_ | refine blk_alloc ?_ _)); refine blk_put (cs := #[.bool t290, .int .i64 0, .int .i64 0, .int .i64 0, .int .i64 0, .int .i64 0]) ?_ 1 _ rfl; (with_reducible repeat (first | refine blk_drewN ?_ _ | refine blk_drew ?_ | refine blk_alloc ?_ _)); refine blk_put (cs := #[.bool false, .int .i64 0, .int .i64 0, .int .i64 0, .int .i64 0, .int .i64 0]) ?_ 0 _ rfl; (with_reducible repeat (first | refine blk_drewN ?_ _ | refine blk_drew ?_ | refine blk_alloc ?_ _)); refine blk_far ?_ NB297_296.out _; (with_reducible repeat (first | refine blk_drewN ?_ _ | refine blk_drew ?_ | refine blk_alloc ?_ _)); refine blk_far ?_ NB297_296.out _; (with_reducible repeat (first | refine blk_drewN ?_ _ | refine blk_drew ?_ | refine blk_alloc ?_ _)); refine blk_far ?_ NB297_296.out _; (with_reducible repeat (first | refine blk_drewN ?_ _ | refine blk_drew ?_ | refine blk_alloc ?_ _)); refine blk_far ?_ NB297_296.out _; (with_reducible repeat (first | refine blk_drewN ?_ _ | refine blk_drew ?_ | refine blk_alloc ?_ _)); refine blk_far ?_ NB297_296.out _; (with_reducible repeat (first | refine blk_drewN ?_ _ | refine blk_drew ?_ | refine blk_alloc ?_ _)); exact BK297.out⟩
          have n3_ : Aside0 (Below w.heap.size w (((((((((((w12.setCell ⟨gb296, 0, none⟩ (.int .i64 t282)).setCell ⟨gb296, 1, none⟩ (.int .i64 t283)).setCell ⟨gb296, 2, none⟩ (.int .i64 t284)).setCell ⟨gb296, 3, none⟩ (.int .i64 t285)).setCell ⟨gb296, 4, none⟩ (.int .i64 t286)).setCell ⟨gb297, 0, none⟩ (.bool t290)).setCell ⟨gb297, 1, none⟩ (.int .i64 t291)).setCell ⟨gb297, 2, none⟩ (.int .i64 t292)).setCell ⟨gb297, 3, none⟩ (.int .i64 t293)).setCell ⟨gb297, 4, none⟩ (.int .i64 t294)).setCell ⟨gb297, 5, none⟩ (.int .i64 t295))) := ⟨by repeat (first | (with_reducible first | exact HB.out | apply below_alloc | apply pw_below_drewN | apply below_drew1 | refine below_set ?_ GE296.out | refine below_set ?_ GE297.out) | exact HB.out)⟩
          (try clear HO289)
          (try clear BK296)
          (try clear BK297)
          (try clear HB)
          generalize (((((((((((w12.setCell ⟨gb296, 0, none⟩ (.int .i64 t282)).setCell ⟨gb296, 1, none⟩ (.int .i64 t283)).setCell ⟨gb296, 2, none⟩ (.int .i64 t284)).setCell ⟨gb296, 3, none⟩ (.int .i64 t285)).setCell ⟨gb296, 4, none⟩ (.int .i64 t286)).setCell ⟨gb297, 0, none⟩ (.bool t290)).setCell ⟨gb297, 1, none⟩ (.int .i64 t291)).setCell ⟨gb297, 2, none⟩ (.int .i64 t292)).setCell ⟨gb297, 3, none⟩ (.int .i64 t293)).setCell ⟨gb297, 4, none⟩ (.int .i64 t294)).setCell ⟨gb297, 5, none⟩ (.int .i64 t295)) = w17 at n0_ n1_ n2_ n3_ ⊢
          have HO289 := n0_
          have BK296 := n1_
          have BK297 := n2_
          have HB := n3_
          clear n0_ n1_ n2_ n3_
          have n0_ := Aside0.mk (Kd.R_drew HO289.out)
          have n1_ := Aside0.mk (blk_drew BK296.out)
          have n2_ := Aside0.mk (blk_drew BK297.out)
          have n3_ := Aside0.mk (below_drew1 HB.out)
          clear HO289 BK296 BK297 HB
          have HO289 := n0_
          have BK296 := n1_
          have BK297 := n2_
          have HB := n3_
          clear n0_ n1_ n2_ n3_
          refine start_ (n := 8) (S := fun w' => w'.cell? ⟨gb296, 0, none⟩ = some (.int .i64 t282) ∧ w'.cell? ⟨gb296, 1, none⟩ = some (.int .i64 t283) ∧ w'.cell? ⟨gb296, 2, none⟩ = some (.int .i64 t284) ∧ w'.cell? ⟨gb296, 3, none⟩ = some (.int .i64 t285) ∧ w'.cell? ⟨gb296, 4, none⟩ = some (.int .i64 t286)) (ds := []) #[false, false, false, false, false, false, false, false] (by kernel_rfl) rfl rfl ⟨zc BK296 0, zc BK296 1, zc BK296 2, zc BK296 3, zc BK296 4⟩ (fun hHeld => ?_); refine with_tabW laws_FnWide.tab5 laws_FnWide.bits5 (fun HT_ HW_ => ?_)
          generalize w17.drew = w18 at HO289 BK296 BK297 HB hHeld ⊢
          refine zp 1 30 (zm 8 2) HT_ ?_
          refine zp 4 33 (zm 8 18) HT_ ?_
          refine zt 0 29 (zm 8 19) HT_ HW_ hHeld ?_
          refine zt 3 32 (zm 8 27) HT_ HW_ hHeld ?_
          refine zo 2 (some 31) (zm 8 31) HT_ (fun K hK => ?_)
          refine zG Try.func44 #[.agg #[.int .i64 t282, .int .i64 t283, .int .i64 t284, .int .i64 t285, .int .i64 t286], .slice Ao16 t287.length co16, .int .i64 0] ?_
          with_reducible refine (impl_Wide.calls t282 t283 t284 t285 t286 _ _ t287 0 t298 _ ?side1 ?side2 A8.out).mono ?_
          (case side1 => repeat (first | exact (Kd.R_reads' HO289.out).2.2 | (with_reducible refine Kd.C_alloc ?_ _) | (with_reducible refine Kd.C_drewN ?_ _) | (with_reducible refine Kd.C_drew ?_)))
          (case side2 => exact (Kd.R_reads' HO289.out).2.1)
          rintro e w19 ⟨rfl, hb⟩
          refine ⟨_, rfl, ?_⟩
          replace BK296 := zb BK296 hb
          replace BK297 := zb BK297 hb
          replace HB := zB HB hb
          replace HO289 := Aside0.mk (Kd.R_below (zr HO289) hb)
          (try clear hb)
          refine hK.out _ _ ⟨zc BK296 0, zc BK296 1, zc BK296 2, zc BK296 3, zc BK296 4⟩ (fun hHeld => ?_)
          clear hK K
          refine zn 31 ?_
          refine zo 5 (some 34) (zm 8 63) HT_ (fun K hK => ?_)
          refine zG Try.func43 #[.agg #[.int .i64 t282, .int .i64 t283, .int .i64 t284, .int .i64 t285, .int .i64 t286], .slice Ao16 t287.length co16, .int .i64 0] ?_
          with_reducible refine (spec_Wide.calls kj2 t282 t283 t284 t285 t286 _ _ t287 0 t299 _ ?side1 ?side2 A9.out).mono ?_
          (case side1 => repeat (first | exact (Kd.R_reads' HO289.out).2.2 | (with_reducible refine Kd.C_alloc ?_ _) | (with_reducible refine Kd.C_drewN ?_ _) | (with_reducible refine Kd.C_drew ?_)))
          (case side2 => exact (Kd.R_reads' HO289.out).2.1)
          rintro e w20 ⟨rfl, hb⟩
          refine ⟨_, rfl, ?_⟩
          replace BK296 := zb BK296 hb
          replace BK297 := zb BK297 hb
          replace HB := zB HB hb
          replace HO289 := Aside0.mk (Kd.R_below (zr HO289) hb)
          (try clear hb)
          refine hK.out _ _ ⟨zc BK296 0, zc BK296 1, zc BK296 2, zc BK296 3, zc BK296 4⟩ (fun hHeld => ?_)
          clear hK K
          refine zn 34 ?_
          refine zp 6 35 (zm 8 127) HT_ ?_
          refine zp 7 4 (zm 8 255) HT_ ?_
          refine done_ (done_of HT_.out (by kernel_rfl)) ?_
          try go_wp2
          go_ret
          exact ⟨by first | rfl | (simp [errW_none, errW_some] <;> rfl) | (simp [*, errW_none, errW_some] <;> rfl), by repeat (first | (with_reducible first | exact HB.out | apply below_alloc | apply pw_below_drewN | apply below_drew1 | refine below_set ?_ GE296.out | refine below_set ?_ GE297.out) | exact HB.out)⟩
        · rw [if_neg c7] at H
          have c7b0 : ((t287.length : Int) == 0) = false := beq_eq_false_iff_ne.mpr c7
          have c7b1 : ((t287.length : Int) != 0) = true := bne_iff_ne.mpr c7
          have c7b2 : ¬ (t287 = []) := fun h_ => c7 (by rw [h_]; rfl)
          replace H := Option.bind_eq_some_iff.mp H
          obtain ⟨t300, A210, H⟩ := H
          replace H : ((laws_wByte.f l1 1).bind fun t301 => ((laws_wByte.f l1 2).bind fun t302 => (if 0 ≤ (Int.tmod t300 (t287.length : Int)) then (if (Int.tmod t300 (t287.length : Int)) < (t287.length : Int) then ((impl_Do.f kj2 t282 t283 t284 t285 t286 t287 false 0 0 t293 t294 t295 2 ((rd_T37 t287 (Int.tmod t300 (t287.length : Int))).f0)).bind fun bt304 => ((impl_Do.f kj2 t282 t283 t284 t285 t286 t287 bt304.1 bt304.2.1 bt304.2.2.1 bt304.2.2.2.1 bt304.2.2.2.2.1 bt304.2.2.2.2.2 1 (Int.tmod (wrap64 (t301 + (wrap64 (256 * t302)))) 3000)).bind fun bt311 => (if bt304.1 = true then ((impl_Wide.f t282 t283 t284 t285 t286 t287 (Int.tmod (wrap64 (t301 + (wrap64 (256 * t302)))) 3000)).bind fun t318 => (if (wrap64 (bt311.2.2.1 - bt311.2.1)) = t318 then (some (bt311.2.2.2.1 == (Int.tmod (wrap64 (t301 + (wrap64 (256 * t302)))) 3000))) else (some false))) else (some false)))) else (none)) else (none)))) = some r := H
          have A21 := Aside0.mk A210
          clear A210
          replace H := Option.bind_eq_some_iff.mp H
          obtain ⟨t301, A220, H⟩ := H
          replace H : ((laws_wByte.f l1 2).bind fun t302 => (if 0 ≤ (Int.tmod t300 (t287.length : Int)) then (if (Int.tmod t300 (t287.length : Int)) < (t287.length : Int) then ((impl_Do.f kj2 t282 t283 t284 t285 t286 t287 false 0 0 t293 t294 t295 2 ((rd_T37 t287 (Int.tmod t300 (t287.length : Int))).f0)).bind fun bt304 => ((impl_Do.f kj2 t282 t283 t284 t285 t286 t287 bt304.1 bt304.2.1 bt304.2.2.1 bt304.2.2.2.1 bt304.2.2.2.2.1 bt304.2.2.2.2.2 1 (Int.tmod (wrap64 (t301 + (wrap64 (256 * t302)))) 3000)).bind fun bt311 => (if bt304.1 = true then ((impl_Wide.f t282 t283 t284 t285 t286 t287 (Int.tmod (wrap64 (t301 + (wrap64 (256 * t302)))) 3000)).bind fun t318 => (if (wrap64 (bt311.2.2.1 - bt311.2.1)) = t318 then (some (bt311.2.2.2.1 == (Int.tmod (wrap64 (t301 + (wrap64 (256 * t302)))) 3000))) else (some false))) else (some false)))) else (none)) else (none))) = some r := H
          have A22 := Aside0.mk A220
          clear A220
          replace H := Option.bind_eq_some_iff.mp H
          obtain ⟨t302, A230, H⟩ := H
          replace H : (if 0 ≤ (Int.tmod t300 (t287.length : Int)) then (if (Int.tmod t300 (t287.length : Int)) < (t287.length : Int) then ((impl_Do.f kj2 t282 t283 t284 t285 t286 t287 false 0 0 t293 t294 t295 2 ((rd_T37 t287 (Int.tmod t300 (t287.length : Int))).f0)).bind fun bt304 => ((impl_Do.f kj2 t282 t283 t284 t285 t286 t287 bt304.1 bt304.2.1 bt304.2.2.1 bt304.2.2.2.1 bt304.2.2.2.2.1 bt304.2.2.2.2.2 1 (Int.tmod (wrap64 (t301 + (wrap64 (256 * t302)))) 3000)).bind fun bt311 => (if bt304.1 = true then ((impl_Wide.f t282 t283 t284 t285 t286 t287 (Int.tmod (wrap64 (t301 + (wrap64 (256 * t302)))) 3000)).bind fun t318 => (if (wrap64 (bt311.2.2.1 - bt311.2.1)) = t318 then (some (bt311.2.2.2.1 == (Int.tmod (wrap64 (t301 + (wrap64 (256 * t302)))) 3000))) else (some false))) else (some false)))) else (none)) else (none)) = some r := H
          have A23 := Aside0.mk A230
          clear A230
          obtain ⟨ji24, hji24⟩ : ∃ j_ : Int, (Int.tmod t300 (t287.length : Int)) = j_ := ⟨_, rfl⟩
          replace H : (if 0 ≤ (ji24) then (if (ji24) < (t287.length : Int) then ((impl_Do.f kj2 t282 t283 t284 t285 t286 t287 false 0 0 t293 t294 t295 2 ((rd_T37 t287 (ji24)).f0)).bind fun bt304 => ((impl_Do.f kj2 t282 t283 t284 t285 t286 t287 bt304.1 bt304.2.1 bt304.2.2.1 bt304.2.2.2.1 bt304.2.2.2.2.1 bt304.2.2.2.2.2 1 (Int.tmod (wrap64 (t301 + (wrap64 (256 * t302)))) 3000)).bind fun bt311 => (if bt304.1 = true then ((impl_Wide.f t282 t283 t284 t285 t286 t287 (Int.tmod (wrap64 (t301 + (wrap64 (256 * t302)))) 3000)).bind fun t318 => (if (wrap64 (bt311.2.2.1 - bt311.2.1)) = t318 then (some (bt311.2.2.2.1 == (Int.tmod (wrap64 (t301 + (wrap64 (256 * t302)))) 3000))) else (some false))) else (some false)))) else (none)) else (none)) = some r := by first | (rw [hji24] at H; exact H) | (simp only [hji24] at H ⊢; exact H)
          (try rw [hji24] at A6)
          (try rw [hji24] at A21)
          (try rw [hji24] at A22)
          (try rw [hji24] at A23)
          by_cases c25 : 0 ≤ (ji24)
          · rw [if_pos c25] at H
            have c25b0 : decide (0 ≤ (ji24)) = true := decide_eq_true c25
            clear c25
            by_cases c26 : (ji24) < (t287.length : Int)
            · rw [if_pos c26] at H
              have c26b0 : decide ((ji24) < (t287.length : Int)) = true := decide_eq_true c26
              clear c26
              replace H := Option.bind_eq_some_iff.mp H
              obtain ⟨⟨t304, t305, t306, t307, t308, t309⟩, A270, H⟩ := H
              replace H : ((impl_Do.f kj2 t282 t283 t284 t285 t286 t287 t304 t305 t306 t307 t308 t309 1 (Int.tmod (wrap64 (t301 + (wrap64 (256 * t302)))) 3000)).bind fun bt311 => (if t304 = true then ((impl_Wide.f t282 t283 t284 t285 t286 t287 (Int.tmod (wrap64 (t301 + (wrap64 (256 * t302)))) 3000)).bind fun t318 => (if (wrap64 (bt311.2.2.1 - bt311.2.1)) = t318 then (some (bt311.2.2.2.1 == (Int.tmod (wrap64 (t301 + (wrap64 (256 * t302)))) 3000))) else (some false))) else (some false))) = some r := H
              have A27 := Aside0.mk A270
              clear A270
              replace H := Option.bind_eq_some_iff.mp H
              obtain ⟨⟨t311, t312, t313, t314, t315, t316⟩, A280, H⟩ := H
              replace H : (if t304 = true then ((impl_Wide.f t282 t283 t284 t285 t286 t287 (Int.tmod (wrap64 (t301 + (wrap64 (256 * t302)))) 3000)).bind fun t318 => (if (wrap64 (t313 - t312)) = t318 then (some (t314 == (Int.tmod (wrap64 (t301 + (wrap64 (256 * t302)))) 3000))) else (some false))) else (some false)) = some r := H
              have A28 := Aside0.mk A280
              clear A280
              by_cases c29 : t304 = true
              · subst c29
                have H1 : ((impl_Wide.f t282 t283 t284 t285 t286 t287 (Int.tmod (wrap64 (t301 + (wrap64 (256 * t302)))) 3000)).bind fun t318 => (if (wrap64 (t313 - t312)) = t318 then (some (t314 == (Int.tmod (wrap64 (t301 + (wrap64 (256 * t302)))) 3000))) else (some false))) = some r := by rw [if_pos rfl] at H; exact H
                clear H
                have H := H1
                clear H1
                replace H := Option.bind_eq_some_iff.mp H
                obtain ⟨t318, A300, H⟩ := H
                replace H : (if (wrap64 (t313 - t312)) = t318 then (some (t314 == (Int.tmod (wrap64 (t301 + (wrap64 (256 * t302)))) 3000))) else (some false)) = some r := H
                have A30 := Aside0.mk A300
                clear A300
                by_cases c31 : (wrap64 (t313 - t312)) = t318
                · rw [if_pos c31] at H
                  have c31b0 : ((wrap64 (t313 - t312)) == t318) = true := beq_iff_eq.mpr c31
                  have c31b1 : ((wrap64 (t313 - t312)) != t318) = false := bne_eq_false_iff_eq.mpr c31
                  clear c31
                  obtain rfl := Option.some.inj H
                  try go_wp2_with (first | ((with_reducible refine gate_callee (f := 14) rfl ?_); refine zL (some 22) Try.func14 #[.slice A0 l0.length c0] ?_; (with_reducible refine (spec_Known.calls kj2 _ _ l0 t282 t283 t284 t285 t286 t287 t290 t291 t292 t293 t294 t295 _ ?side1 ?side2 A6.out).mono ?_); (case side1 => repeat (first | exact (Kd.C_below HR0.out HB.out) | (with_reducible refine Kd.C_alloc ?_ _) | (with_reducible refine Kd.C_drewN ?_ _) | (with_reducible refine Kd.C_drew ?_))); (case side2 => exact HC0.out); rintro e w32 ⟨v288, rfl, ho0, hb⟩; refine ⟨_, rfl, ?_⟩; have HO289 := Aside0.mk (Kd.R_lower ho0 (below_size (zh HB))); replace HB := zB HB hb; (try clear hb); (try clear ho0)) | ((with_reducible refine gate_dst (N := 5) rfl ?_); (try (refine gate_guard (by rfl) ?_; dsimp only)); refine zx 5 #[.int .i64 0, .int .i64 0, .int .i64 0, .int .i64 0, .int .i64 0] 24 ?_; intro gb296 hg w33 hbox hb; have BK296 := Aside0.mk (hbox); have GW296 := zge HB hg; have GE296 := GW296; replace HB := zB HB hb; replace HO289 := Aside0.mk (Kd.R_below (zr HO289) hb); clear hb hbox hg) | ((with_reducible refine gate_dst (N := 7) rfl ?_); (try (refine gate_guard (by rfl) ?_; dsimp only)); refine zx 7 #[.bool false, .int .i64 0, .int .i64 0, .int .i64 0, .int .i64 0, .int .i64 0] 29 ?_; intro gb297 hg w34 hbox hb; have BK297 := Aside0.mk (hbox); have GW297 := zge HB hg; have GE297 := GW297; have NB296_297 := zl BK296 hg; have NB297_296 := zg BK296 hg; replace BK296 := zb BK296 hb; replace HB := zB HB hb; replace HO289 := Aside0.mk (Kd.R_below (zr HO289) hb); clear hb hbox hg; have hnb35 := NB296_297.out; have hnc35 := NB297_296.out; obtain ⟨hcz36_0, hcz36_1, hcz36_2, hcz36_3, hcz36_4, hfz36_0, hfz36_1, hfz36_2, hfz36_3, hfz36_4⟩ := zs5 BK296; obtain ⟨hcz37_0, hcz37_1, hcz37_2, hcz37_3, hcz37_4, hcz37_5, hfz37_0, hfz37_1, hfz37_2, hfz37_3, hfz37_4, hfz37_5⟩ := zs6 BK297; obtain ⟨Ao38, co38, eo38⟩ := Kd.R_slice HO289.out; subst eo38) | ((with_reducible refine gate_callee (f := 16) rfl ?_); refine zL (some 37) Try.func16 #[.slice A1 l1.length c1, .int .i64 0] ?_; (with_reducible refine (laws_wByte.calls _ _ l1 0 t300 _ ?side1 ?side2 A21.out).mono ?_); (case side1 => exact Kd.C_below HR1.out (by repeat (first | (with_reducible first | exact HB.out | apply below_alloc | apply pw_below_drewN | apply below_drew1 | refine below_set ?_ GE296.out | refine below_set ?_ GE297.out) | exact HB.out))); (case side2 => exact HC1.out); rintro e w' ⟨rfl, ⟨nd, rfl⟩⟩; refine ⟨_, rfl, ?_⟩) | ((with_reducible refine gate_callee (f := 16) rfl ?_); refine zL (some 42) Try.func16 #[.slice A1 l1.length c1, .int .i64 1] ?_; (with_reducible refine (laws_wByte.calls _ _ l1 1 t301 _ ?side1 ?side2 A22.out).mono ?_); (case side1 => exact Kd.C_below HR1.out (by repeat (first | (with_reducible first | exact HB.out | apply below_alloc | apply pw_below_drewN | apply below_drew1 | refine below_set ?_ GE296.out | refine below_set ?_ GE297.out) | exact HB.out))); (case side2 => exact HC1.out); rintro e w' ⟨rfl, ⟨nd, rfl⟩⟩; refine ⟨_, rfl, ?_⟩) | ((with_reducible refine gate_callee (f := 16) rfl ?_); refine zL (some 44) Try.func16 #[.slice A1 l1.length c1, .int .i64 2] ?_; (with_reducible refine (laws_wByte.calls _ _ l1 2 t302 _ ?side1 ?side2 A23.out).mono ?_); (case side1 => exact Kd.C_below HR1.out (by repeat (first | (with_reducible first | exact HB.out | apply below_alloc | apply pw_below_drewN | apply below_drew1 | refine below_set ?_ GE296.out | refine below_set ?_ GE297.out) | exact HB.out))); (case side2 => exact HC1.out); rintro e w' ⟨rfl, ⟨nd, rfl⟩⟩; refine ⟨_, rfl, ?_⟩))
                  (repeat rw [zD])
                  have n0_ : Aside0 (Kd.R k37 37 ((((((((((((((w34.setCell ⟨gb296, 0, none⟩ (.int .i64 t282)).setCell ⟨gb296, 1, none⟩ (.int .i64 t283)).setCell ⟨gb296, 2, none⟩ (.int .i64 t284)).setCell ⟨gb296, 3, none⟩ (.int .i64 t285)).setCell ⟨gb296, 4, none⟩ (.int .i64 t286)).setCell ⟨gb297, 0, none⟩ (.bool t290)).setCell ⟨gb297, 1, none⟩ (.int .i64 t291)).setCell ⟨gb297, 2, none⟩ (.int .i64 t292)).setCell ⟨gb297, 3, none⟩ (.int .i64 t293)).setCell ⟨gb297, 4, none⟩ (.int .i64 t294)).setCell ⟨gb297, 5, none⟩ (.int .i64 t295)).setCell ⟨gb297, 0, none⟩ (.bool false)).setCell ⟨gb297, 1, none⟩ (.int .i64 0)).setCell ⟨gb297, 2, none⟩ (.int .i64 0)) w.heap.size (fun _ => True) (.slice Ao38 t287.length co38) t287) := ⟨by (with_reducible repeat (first | apply Kd.R_alloc | apply Kd.R_drewN | apply Kd.R_drew)); exact Kd.R_mono (Kd.R_far (p := ⟨gb297, 2, none⟩) (Kd.R_far (p := ⟨gb297, 1, none⟩) (Kd.R_far (p := ⟨gb297, 0, none⟩) (Kd.R_far (p := ⟨gb297, 5, none⟩) (Kd.R_far (p := ⟨gb297, 4, none⟩) (Kd.R_far (p := ⟨gb297, 3, none⟩) (Kd.R_far (p := ⟨gb297, 2, none⟩) (Kd.R_far (p := ⟨gb297, 1, none⟩) (Kd.R_far (p := ⟨gb297, 0, none⟩) (Kd.R_far (p := ⟨gb296, 4, none⟩) (Kd.R_far (p := ⟨gb296, 3, none⟩) (Kd.R_far (p := ⟨gb296, 2, none⟩) (Kd.R_far (p := ⟨gb296, 1, none⟩) (Kd.R_far (p := ⟨gb296, 0, none⟩) (Kd.R_types (Kd.R_types HO289.out BK296.out (by decide)) BK297.out (by decide)) (fun _ hk => hk.1.2) (.int .i64 t282)) (fun _ hk => hk.1.2) (.int .i64 t283)) (fun _ hk => hk.1.2) (.int .i64 t284)) (fun _ hk => hk.1.2) (.int .i64 t285)) (fun _ hk => hk.1.2) (.int .i64 t286)) (fun _ hk => hk.2) (.bool t290)) (fun _ hk => hk.2) (.int .i64 t291)) (fun _ hk => hk.2) (.int .i64 t292)) (fun _ hk => hk.2) (.int .i64 t293)) (fun _ hk => hk.2) (.int .i64 t294)) (fun _ hk => hk.2) (.int .i64 t295)) (fun _ hk => hk.2) (.bool false)) (fun _ hk => hk.2) (.int .i64 0)) (fun _ hk => hk.2) (.int .i64 0)) (fun _ hk => trivial)⟩
                  have n1_ : Aside0 (((((((((((((((w34.setCell ⟨gb296, 0, none⟩ (.int .i64 t282)).setCell ⟨gb296, 1, none⟩ (.int .i64 t283)).setCell ⟨gb296, 2, none⟩ (.int .i64 t284)).setCell ⟨gb296, 3, none⟩ (.int .i64 t285)).setCell ⟨gb296, 4, none⟩ (.int .i64 t286)).setCell ⟨gb297, 0, none⟩ (.bool t290)).setCell ⟨gb297, 1, none⟩ (.int .i64 t291)).setCell ⟨gb297, 2, none⟩ (.int .i64 t292)).setCell ⟨gb297, 3, none⟩ (.int .i64 t293)).setCell ⟨gb297, 4, none⟩ (.int .i64 t294)).setCell ⟨gb297, 5, none⟩ (.int .i64 t295)).setCell ⟨gb297, 0, none⟩ (.bool false)).setCell ⟨gb297, 1, none⟩ (.int .i64 0)).setCell ⟨gb297, 2, none⟩ (.int .i64 0)).heap[gb296]? = some (.cells #[.int .i64 t282, .int .i64 t283, .int .i64 t284, .int .i64 t285, .int .i64 t286] 24 (0, 0))) := ⟨by (with_reducible repeat (first | refine blk_drewN ?_ _ | refine blk_drew ?_ | refine blk_alloc ?_ _)); refine blk_far ?_ NB296_297.out _; (with_reducible repeat (first | refine blk_drewN ?_ _ | refine blk_drew ?_ | refine blk_alloc ?_ _)); refine blk_far ?_ NB296_297.out _; (with_reducible repeat (first | refine blk_drewN ?_ _ | refine blk_drew ?_ | refine blk_alloc ?_ _)); refine blk_far ?_ NB296_297.out _; (with_reducible repeat (first | refine blk_drewN ?_ _ | refine blk_drew ?_ | refine blk_alloc ?_ _)); refine blk_far ?_ NB296_297.out _; (with_reducible repeat (first | refine blk_drewN ?_ _ | refine blk_drew ?_ | refine blk_alloc ?_ _)); refine blk_far ?_ NB296_297.out _; (with_reducible repeat (first | refine blk_drewN ?_ _ | refine blk_drew ?_ | refine blk_alloc ?_ _)); refine blk_far ?_ NB296_297.out _; (with_reducible repeat (first | refine blk_drewN ?_ _ | refine blk_drew ?_ | refine blk_alloc ?_ _)); refine blk_far ?_ NB296_297.out _; (with_reducible repeat (first | refine blk_drewN ?_ _ | refine blk_drew ?_ | refine blk_alloc ?_ _)); refine blk_far ?_ NB296_297.out _; (with_reducible repeat (first | refine blk_drewN ?_ _ | refine blk_drew ?_ | refine blk_alloc ?_ _)); refine blk_far ?_ NB296_297.out _; (with_reducible repeat (first | refine blk_drewN ?_ _ | refine blk_drew ?_ | refine blk_alloc ?_ _)); refine blk_put (cs := #[.int .i64 t282, .int .i64 t283, .int .i64 t284, .int .i64 t285, .int .i64 0]) ?_ 4 _ rfl; (with_reducible repeat (first | refine blk_drewN ?_ _ | refine blk_drew ?_ | refine blk_alloc ?_ _)); refine blk_put (cs := #[.int .i64 t282, .int .i64 t283, .int .i64 t284, .int .i64 0, .int .i64 0]) ?_ 3 _ rfl; (with_reducible repeat (first | refine blk_drewN ?_ _ | refine blk_drew ?_ | refine blk_alloc ?_ _)); refine blk_put (cs := #[.int .i64 t282, .int .i64 t283, .int .i64 0, .int .i64 0, .int .i64 0]) ?_ 2 _ rfl; (with_reducible repeat (first | refine blk_drewN ?_ _ | refine blk_drew ?_ | refine blk_alloc ?_ _)); refine blk_put (cs := #[.int .i64 t282, .int .i64 0, .int .i64 0, .int .i64 0, .int .i64 0]) ?_ 1 _ rfl; (with_reducible repeat (first | refine blk_drewN ?_ _ | refine blk_drew ?_ | refine blk_alloc ?_ _)); refine blk_put (cs := #[.int .i64 0, .int .i64 0, .int .i64 0, .int .i64 0, .int .i64 0]) ?_ 0 _ rfl; (with_reducible repeat (first | refine blk_drewN ?_ _ | refine blk_drew ?_ | refine blk_alloc ?_ _)); exact BK296.out⟩
                  have n2_ : Aside0 (((((((((((((((w34.setCell ⟨gb296, 0, none⟩ (.int .i64 t282)).setCell ⟨gb296, 1, none⟩ (.int .i64 t283)).setCell ⟨gb296, 2, none⟩ (.int .i64 t284)).setCell ⟨gb296, 3, none⟩ (.int .i64 t285)).setCell ⟨gb296, 4, none⟩ (.int .i64 t286)).setCell ⟨gb297, 0, none⟩ (.bool t290)).setCell ⟨gb297, 1, none⟩ (.int .i64 t291)).setCell ⟨gb297, 2, none⟩ (.int .i64 t292)).setCell ⟨gb297, 3, none⟩ (.int .i64 t293)).setCell ⟨gb297, 4, none⟩ (.int .i64 t294)).setCell ⟨gb297, 5, none⟩ (.int .i64 t295)).setCell ⟨gb297, 0, none⟩ (.bool false)).setCell ⟨gb297, 1, none⟩ (.int .i64 0)).setCell ⟨gb297, 2, none⟩ (.int .i64 0)).heap[gb297]? = some (.cells #[.bool false, .int .i64 0, .int .i64 0, .int .i64 t293, .int .i64 t294, .int .i64 t295] 29 (0, 0))) := ⟨by (with_reducible repeat (first | refine blk_drewN ?_ _ | refine blk_drew ?_ | refine blk_alloc ?_ _)); refine blk_put (cs := #[.bool false, .int .i64 0, .int .i64 t292, .int .i64 t293, .int .i64 t294, .int .i64 t295]) ?_ 2 _ rfl; (with_reducible repeat (first | refine blk_drewN ?_ _ | refine blk_drew ?_ | refine blk_alloc ?_ _)); refine blk_put (cs := #[.bool false, .int .i64 t291, .int .i64 t292, .int .i64 t293, .int .i64 t294, .int .i64 t295]) ?_ 1 _ rfl; (with_reducible repeat (first | refine blk_drewN ?_ _ | refine blk_drew ?_ | refine blk_alloc ?_ _)); refine blk_put (cs := #[.bool t290, .int .i64 t291, .int .i64 t292, .int .i64 t293, .int .i64 t294, .int .i64 t295]) ?_ 0 _ rfl; (with_reducible repeat (first | refine blk_drewN ?_ _ | refine blk_drew ?_ | refine blk_alloc ?_ _)); refine blk_put (cs := #[.bool t290, .int .i64 t291, .int .i64 t292, .int .i64 t293, .int .i64 t294, .int .i64 0]) ?_ 5 _ rfl; (with_reducible repeat (first | refine blk_drewN ?_ _ | refine blk_drew ?_ | refine blk_alloc ?_ _)); refine blk_put (cs := #[.bool t290, .int .i64 t291, .int .i64 t292, .int .i64 t293, .int .i64 0, .int .i64 0]) ?_ 4 _ rfl; (with_reducible repeat (first | refine blk_drewN ?_ _ | refine blk_drew ?_ | refine blk_alloc ?_ _)); refine blk_put (cs := #[.bool t290, .int .i64 t291, .int .i64 t292, .int .i64 0, .int .i64 0, .int .i64 0]) ?_ 3 _ rfl; (with_reducible repeat (first | refine blk_drewN ?_ _ | refine blk_drew ?_ | refine blk_alloc ?_ _)); refine blk_put (cs := #[.bool t290, .int .i64 t291, .int .i64 0, .int .i64 0, .int .i64 0, .int .i64 0]) ?_ 2 _ rfl; (with_reducible repeat (first | refine blk_drewN ?_ _ | refine blk_drew ?_ | refine blk_alloc ?_ _)); refine blk_put (cs := #[.bool t290, .int .i64 0, .int .i64 0, .int .i64 0, .int .i64 0, .int .i64 0]) ?_ 1 _ rfl; (with_reducible repeat (first | refine blk_drewN ?_ _ | refine blk_drew ?_ | refine blk_alloc ?_ _)); refine blk_put (cs := #[.bool false, .int .i64 0, .int .i64 0, .int .i64 0, .int .i64 0, .int .i64 0]) ?_ 0 _ rfl; (with_reducible repeat (first | refine blk_drewN ?_ _ | refine blk_drew ?_ | refine blk_alloc ?_ _)); refine blk_far ?_ NB297_296.out _; (with_reducible repeat (first | refine blk_drewN ?_ _ | refine blk_drew ?_ | refine blk_alloc ?_ _)); refine blk_far ?_ NB297_296.out _; (with_reducible repeat (first | refine blk_drewN ?_ _ | refine blk_drew ?_ | refine blk_alloc ?_ _)); refine blk_far ?_ NB297_296.out _; (with_reducible repeat (first | refine blk_drewN ?_ _ | refine blk_drew ?_ | refine blk_alloc ?_ _)); refine blk_far ?_ NB297_296.out _; (with_reducible repeat (first | refine blk_drewN ?_ _ | refine blk_drew ?_ | refine blk_alloc ?_ _)); refine blk_far ?_ NB297_296.out _; (with_reducible repeat (first | refine blk_drewN ?_ _ | refine blk_drew ?_ | refine blk_alloc ?_ _)); exact BK297.out⟩
                  have n3_ : Aside0 (Below w.heap.size w ((((((((((((((w34.setCell ⟨gb296, 0, none⟩ (.int .i64 t282)).setCell ⟨gb296, 1, none⟩ (.int .i64 t283)).setCell ⟨gb296, 2, none⟩ (.int .i64 t284)).setCell ⟨gb296, 3, none⟩ (.int .i64 t285)).setCell ⟨gb296, 4, none⟩ (.int .i64 t286)).setCell ⟨gb297, 0, none⟩ (.bool t290)).setCell ⟨gb297, 1, none⟩ (.int .i64 t291)).setCell ⟨gb297, 2, none⟩ (.int .i64 t292)).setCell ⟨gb297, 3, none⟩ (.int .i64 t293)).setCell ⟨gb297, 4, none⟩ (.int .i64 t294)).setCell ⟨gb297, 5, none⟩ (.int .i64 t295)).setCell ⟨gb297, 0, none⟩ (.bool false)).setCell ⟨gb297, 1, none⟩ (.int .i64 0)).setCell ⟨gb297, 2, none⟩ (.int .i64 0))) := ⟨by repeat (first | (with_reducible first | exact HB.out | apply below_alloc | apply pw_below_drewN | apply below_drew1 | refine below_set ?_ GE296.out | refine below_set ?_ GE297.out) | exact HB.out)⟩
                  (try clear HO289)
                  (try clear BK296)
                  (try clear BK297)
                  (try clear HB)
                  generalize ((((((((((((((w34.setCell ⟨gb296, 0, none⟩ (.int .i64 t282)).setCell ⟨gb296, 1, none⟩ (.int .i64 t283)).setCell ⟨gb296, 2, none⟩ (.int .i64 t284)).setCell ⟨gb296, 3, none⟩ (.int .i64 t285)).setCell ⟨gb296, 4, none⟩ (.int .i64 t286)).setCell ⟨gb297, 0, none⟩ (.bool t290)).setCell ⟨gb297, 1, none⟩ (.int .i64 t291)).setCell ⟨gb297, 2, none⟩ (.int .i64 t292)).setCell ⟨gb297, 3, none⟩ (.int .i64 t293)).setCell ⟨gb297, 4, none⟩ (.int .i64 t294)).setCell ⟨gb297, 5, none⟩ (.int .i64 t295)).setCell ⟨gb297, 0, none⟩ (.bool false)).setCell ⟨gb297, 1, none⟩ (.int .i64 0)).setCell ⟨gb297, 2, none⟩ (.int .i64 0)) = w39 at n0_ n1_ n2_ n3_ ⊢
                  have HO289 := n0_
                  have BK296 := n1_
                  have BK297 := n2_
                  have HB := n3_
                  clear n0_ n1_ n2_ n3_
                  (try (rw [drewN_self w39]; generalize hq_ : World.drewN w39 _ = w39; have n0_ : Aside0 (Kd.R k37 37 w39 w.heap.size (fun _ => True) (.slice Ao38 t287.length co38) t287) := ⟨by rw [← hq_]; exact (zr HO289)⟩; have n1_ : Aside0 (w39.heap[gb296]? = some (.cells #[.int .i64 t282, .int .i64 t283, .int .i64 t284, .int .i64 t285, .int .i64 t286] 24 (0, 0))) := ⟨by rw [← hq_]; exact (zy BK296)⟩; have n2_ : Aside0 (w39.heap[gb297]? = some (.cells #[.bool false, .int .i64 0, .int .i64 0, .int .i64 t293, .int .i64 t294, .int .i64 t295] 29 (0, 0))) := ⟨by rw [← hq_]; exact (zy BK297)⟩; have n3_ : Aside0 (Below w.heap.size w w39) := ⟨by rw [← hq_]; exact (by repeat (first | (with_reducible first | exact HB.out | apply below_alloc | apply pw_below_drewN | apply below_drew1 | refine below_set ?_ GE296.out | refine below_set ?_ GE297.out) | exact HB.out))⟩; clear HO289 BK296 BK297 HB hq_; have HO289 := n0_; have BK296 := n1_; have BK297 := n2_; have HB := n3_; clear n0_ n1_ n2_ n3_))
                  have n0_ := Aside0.mk (Kd.R_drew HO289.out)
                  have n1_ := Aside0.mk (blk_drew BK296.out)
                  have n2_ := Aside0.mk (blk_drew BK297.out)
                  have n3_ := Aside0.mk (below_drew1 HB.out)
                  clear HO289 BK296 BK297 HB
                  have HO289 := n0_
                  have BK296 := n1_
                  have BK297 := n2_
                  have HB := n3_
                  clear n0_ n1_ n2_ n3_
                  have p303 : 0 ≤ ((ji24) : Int) := of_decide_eq_true (by first | (with_reducible assumption) | assumption)
                  have q303 : (ji24) < (t287.length : Int) := of_decide_eq_true (by first | (with_reducible assumption) | assumption)
                  obtain ⟨ad303, e303, hx303_0, hx303_1⟩ := at_T37 (Kd.R_reads' HO289.out).2.2 (ji24) p303 q303
                  cases e303
                  replace p303 := eq_true p303
                  replace q303 := eq_true q303
                  refine start_ (n := 12) (S := fun w' => w'.cell? ⟨gb296, 0, none⟩ = some (.int .i64 t282) ∧ w'.cell? ⟨gb296, 1, none⟩ = some (.int .i64 t283) ∧ w'.cell? ⟨gb296, 2, none⟩ = some (.int .i64 t284) ∧ w'.cell? ⟨gb296, 3, none⟩ = some (.int .i64 t285) ∧ w'.cell? ⟨gb296, 4, none⟩ = some (.int .i64 t286) ∧ w'.cell? ⟨gb297, 0, none⟩ = some (.bool false) ∧ w'.cell? ⟨gb297, 1, none⟩ = some (.int .i64 0) ∧ w'.cell? ⟨gb297, 2, none⟩ = some (.int .i64 0) ∧ w'.cell? ⟨gb297, 3, none⟩ = some (.int .i64 t293) ∧ w'.cell? ⟨gb297, 4, none⟩ = some (.int .i64 t294) ∧ w'.cell? ⟨gb297, 5, none⟩ = some (.int .i64 t295) ∧ w'.cell? (ad303.add (((ji24)).toNat * 2)) = some (.int .i64 ((rd_T37 t287 (ji24)).f0)) ∧ w'.cell? ⟨(ad303.add (((ji24)).toNat * 2)).block, (ad303.add (((ji24)).toNat * 2)).off + 1, none⟩ = some (.int .i64 ((rd_T37 t287 (ji24)).f1))) (ds := []) #[false, false, false, false, false, false, false, false, false, false, false, false] (by kernel_rfl) rfl rfl ⟨zc BK296 0, zc BK296 1, zc BK296 2, zc BK296 3, zc BK296 4, zc BK297 0, zc BK297 1, zc BK297 2, zc BK297 3, zc BK297 4, zc BK297 5, hx303_0, hx303_1⟩ (fun hHeld => ?_); refine with_tabW laws_FnWide.tab10 laws_FnWide.bits10 (fun HT_ HW_ => ?_)
                  generalize w39.drew = w40 at HO289 BK296 BK297 HB hx303_0 hx303_1 hHeld ⊢
                  refine zp 1 52 (zm 12 2) HT_ ?_
                  refine zp 3 54 (zm 12 10) HT_ ?_
                  refine zp 4 55 (zm 12 26) HT_ ?_
                  refine zp 5 56 (zm 12 58) HT_ ?_
                  refine zp 6 57 (zm 12 122) HT_ ?_
                  refine zt 0 51 (zm 12 123) HT_ HW_ hHeld ?_
                  refine zt 2 53 (zm 12 127) HT_ HW_ hHeld ?_
                  refine zt 7 58 (zm 12 255) HT_ HW_ hHeld ?_
                  refine zp 8 59 (zm 12 511) HT_ ?_
                  refine join_ (σ := Nat) 1 #[true, true, true, true, true, true, true, true, true, true, true, false] (fun s_ => [(60, .agg #[.bool true, .int .i64 t305, .int .i64 t306, .int .i64 t307, .int .i64 t308, .int .i64 t309]), (10, .pointer (some ⟨s_, 0, none⟩))]) (fun s_ w' => (w'.cell? ⟨gb296, 0, none⟩ = some (.int .i64 t282) ∧ w'.cell? ⟨gb296, 1, none⟩ = some (.int .i64 t283) ∧ w'.cell? ⟨gb296, 2, none⟩ = some (.int .i64 t284) ∧ w'.cell? ⟨gb296, 3, none⟩ = some (.int .i64 t285) ∧ w'.cell? ⟨gb296, 4, none⟩ = some (.int .i64 t286) ∧ w'.cell? ⟨gb297, 0, none⟩ = some (.bool false) ∧ w'.cell? ⟨gb297, 1, none⟩ = some (.int .i64 0) ∧ w'.cell? ⟨gb297, 2, none⟩ = some (.int .i64 0) ∧ w'.cell? ⟨gb297, 3, none⟩ = some (.int .i64 t293) ∧ w'.cell? ⟨gb297, 4, none⟩ = some (.int .i64 t294) ∧ w'.cell? ⟨gb297, 5, none⟩ = some (.int .i64 t295) ∧ w'.cell? (ad303.add (((ji24)).toNat * 2)) = some (.int .i64 ((rd_T37 t287 (ji24)).f0)) ∧ w'.cell? ⟨(ad303.add (((ji24)).toNat * 2)).block, (ad303.add (((ji24)).toNat * 2)).off + 1, none⟩ = some (.int .i64 ((rd_T37 t287 (ji24)).f1))) ∧ (Kd.R k37 37 w' w.heap.size (fun _ => True) (.slice (some ad303) t287.length co38) t287) ∧ (w'.heap[gb296]? = some (.cells #[.int .i64 t282, .int .i64 t283, .int .i64 t284, .int .i64 t285, .int .i64 t286] 24 (0, 0))) ∧ (w'.heap[gb297]? = some (.cells #[.bool false, .int .i64 0, .int .i64 0, .int .i64 t293, .int .i64 t294, .int .i64 t295] 29 (0, 0))) ∧ (w'.heap[s_]? = some (.cells #[.bool false, .int .i64 0, .int .i64 0, .int .i64 0, .int .i64 0, .int .i64 0] 29 (0, 0))) ∧ (w.heap.size ≤ s_) ∧ (w.heap.size ≤ s_) ∧ (gb296 ≠ s_) ∧ (s_ ≠ gb296) ∧ (gb297 ≠ s_) ∧ (s_ ≠ gb297) ∧ (Below w.heap.size w w')) ?_ ?_
                  rotate_left
                  · intro hCont
                    refine two_ (i := 9) (j := 10) (Ni := some 60) (Nj := some 10) #[true, true, true, true, true, true, true, true, true, true, false, false] #[true, true, true, true, true, true, true, true, true, false, true, false] rfl rfl rfl rfl (two_of HT_.out (by kernel_rfl)) (by decide) (by decide) (fun K hK => ?_) (fun K hK => ?_)
                    · skip
                      refine goes_ Try.func15 (by kernel_rfl) rfl #[.agg #[.int .i64 t282, .int .i64 t283, .int .i64 t284, .int .i64 t285, .int .i64 t286], .slice (some ad303) t287.length co38, .agg #[.bool false, .int .i64 0, .int .i64 0, .int .i64 t293, .int .i64 t294, .int .i64 t295], .agg #[.int .i64 2, .int .i64 ((rd_T37 t287 (ji24)).f0)]] (by rfl) rfl rfl (by (try simp only [List.map_toArray, List.map_cons, List.map_nil]); first | done | (simp only [hji24]; rfl) | rfl | (simp only [List.length_drop, List.length_take]; rfl)) ?_
                      with_reducible refine (impl_Do.calls kj2 t282 t283 t284 t285 t286 _ _ t287 false 0 0 t293 t294 t295 2 ((rd_T37 t287 (ji24)).f0) true t305 t306 t307 t308 t309 _ ?side1 ?side2 A27.out).mono ?_
                      (case side1 => repeat (first | exact (Kd.R_reads' HO289.out).2.2 | (with_reducible refine Kd.C_alloc ?_ _) | (with_reducible refine Kd.C_drewN ?_ _) | (with_reducible refine Kd.C_drew ?_)))
                      (case side2 => exact (Kd.R_reads' HO289.out).2.1)
                      rintro e w41 ⟨rfl, hb⟩
                      have HS11_ := (hb.cell (World.block_lt_of_cell? _ _ (hHeld.2.2.2.2.2.2.2.2.2.2.2.1))).trans (hHeld.2.2.2.2.2.2.2.2.2.2.2.1)
                      have HS12_ := (hb.cell (World.block_lt_of_cell? _ _ (hHeld.2.2.2.2.2.2.2.2.2.2.2.2))).trans (hHeld.2.2.2.2.2.2.2.2.2.2.2.2)
                      refine ⟨_, rfl, ?_⟩
                      replace BK296 := zb BK296 hb
                      replace BK297 := zb BK297 hb
                      replace HB := zB HB hb
                      replace HO289 := Aside0.mk (Kd.R_below (zr HO289) hb)
                      (try clear hb)
                      refine hK.out _ _ ⟨zc BK296 0, zc BK296 1, zc BK296 2, zc BK296 3, zc BK296 4, zc BK297 0, zc BK297 1, zc BK297 2, zc BK297 3, zc BK297 4, zc BK297 5, HS11_, HS12_⟩ (fun hHeld => ?_)
                      clear hK K
                      refine zn 60 ?_
                      refine zo 10 (some 10) (zm 12 2047) HT_ (fun K hK => ?_)
                      refine box_step ?hg (N := 10) ?hd (cs := #[.bool false, .int .i64 0, .int .i64 0, .int .i64 0, .int .i64 0, .int .i64 0]) (t := 29) ?hr ?_; (case hd => rfl); (case hg => rfl); (case hr => first | (go_simp; done) | (go_simp; rfl))
                      intro gb310 hg w42 hbox hb
                      have HS11_ := (hb.cell (World.block_lt_of_cell? _ _ (hHeld.2.2.2.2.2.2.2.2.2.2.2.1))).trans (hHeld.2.2.2.2.2.2.2.2.2.2.2.1)
                      have HS12_ := (hb.cell (World.block_lt_of_cell? _ _ (hHeld.2.2.2.2.2.2.2.2.2.2.2.2))).trans (hHeld.2.2.2.2.2.2.2.2.2.2.2.2)
                      have BK310 := Aside0.mk (hbox)
                      have GW310 := zge HB hg
                      have GE310 := GW310
                      have NB296_310 := zl BK296 hg
                      have NB310_296 := zg BK296 hg
                      have NB297_310 := zl BK297 hg
                      have NB310_297 := zg BK297 hg
                      replace BK296 := zb BK296 hb
                      replace BK297 := zb BK297 hb
                      replace HB := zB HB hb
                      replace HO289 := Aside0.mk (Kd.R_below (zr HO289) hb)
                      clear hb hbox hg
                      refine hK.out _ _ ⟨zc BK296 0, zc BK296 1, zc BK296 2, zc BK296 3, zc BK296 4, zc BK297 0, zc BK297 1, zc BK297 2, zc BK297 3, zc BK297 4, zc BK297 5, HS11_, HS12_⟩ (fun hHeld => ?_)
                      clear hK K
                      refine zn 10 ?_
                      exact norm_ (by simp only [putAll, Act.put, List.setIfInBounds_toArray, List.set_cons_zero, List.set_cons_succ]) (hCont (gb310) _ ⟨hHeld, (zr HO289), (zy BK296), (zy BK297), (zy BK310), GW310.out, GE310.out, NB296_310.out, NB310_296.out, NB297_310.out, NB310_297.out, (by repeat (first | (with_reducible first | exact HB.out | apply below_alloc | apply pw_below_drewN | apply below_drew1 | refine below_set ?_ GE296.out | refine below_set ?_ GE297.out | refine below_set ?_ GE310.out) | exact HB.out))⟩)
                    · skip
                      refine box_step ?hg (N := 10) ?hd (cs := #[.bool false, .int .i64 0, .int .i64 0, .int .i64 0, .int .i64 0, .int .i64 0]) (t := 29) ?hr ?_; (case hd => rfl); (case hg => rfl); (case hr => first | (go_simp; done) | (go_simp; rfl))
                      intro gb310 hg w41 hbox hb
                      have HS11_ := (hb.cell (World.block_lt_of_cell? _ _ (hHeld.2.2.2.2.2.2.2.2.2.2.2.1))).trans (hHeld.2.2.2.2.2.2.2.2.2.2.2.1)
                      have HS12_ := (hb.cell (World.block_lt_of_cell? _ _ (hHeld.2.2.2.2.2.2.2.2.2.2.2.2))).trans (hHeld.2.2.2.2.2.2.2.2.2.2.2.2)
                      have BK310 := Aside0.mk (hbox)
                      have GW310 := zge HB hg
                      have GE310 := GW310
                      have NB296_310 := zl BK296 hg
                      have NB310_296 := zg BK296 hg
                      have NB297_310 := zl BK297 hg
                      have NB310_297 := zg BK297 hg
                      replace BK296 := zb BK296 hb
                      replace BK297 := zb BK297 hb
                      replace HB := zB HB hb
                      replace HO289 := Aside0.mk (Kd.R_below (zr HO289) hb)
                      clear hb hbox hg
                      refine hK.out _ _ ⟨zc BK296 0, zc BK296 1, zc BK296 2, zc BK296 3, zc BK296 4, zc BK297 0, zc BK297 1, zc BK297 2, zc BK297 3, zc BK297 4, zc BK297 5, HS11_, HS12_⟩ (fun hHeld => ?_)
                      clear hK K
                      refine zn 10 ?_
                      refine zo 9 (some 60) (zm 12 2047) HT_ (fun K hK => ?_)
                      refine goes_ Try.func15 (by kernel_rfl) rfl #[.agg #[.int .i64 t282, .int .i64 t283, .int .i64 t284, .int .i64 t285, .int .i64 t286], .slice (some ad303) t287.length co38, .agg #[.bool false, .int .i64 0, .int .i64 0, .int .i64 t293, .int .i64 t294, .int .i64 t295], .agg #[.int .i64 2, .int .i64 ((rd_T37 t287 (ji24)).f0)]] (by rfl) rfl rfl (by (try simp only [List.map_toArray, List.map_cons, List.map_nil]); first | done | (simp only [hji24]; rfl) | rfl | (simp only [List.length_drop, List.length_take]; rfl)) ?_
                      with_reducible refine (impl_Do.calls kj2 t282 t283 t284 t285 t286 _ _ t287 false 0 0 t293 t294 t295 2 ((rd_T37 t287 (ji24)).f0) true t305 t306 t307 t308 t309 _ ?side1 ?side2 A27.out).mono ?_
                      (case side1 => repeat (first | exact (Kd.R_reads' HO289.out).2.2 | (with_reducible refine Kd.C_alloc ?_ _) | (with_reducible refine Kd.C_drewN ?_ _) | (with_reducible refine Kd.C_drew ?_)))
                      (case side2 => exact (Kd.R_reads' HO289.out).2.1)
                      rintro e w42 ⟨rfl, hb⟩
                      have HS11_ := (hb.cell (World.block_lt_of_cell? _ _ (hHeld.2.2.2.2.2.2.2.2.2.2.2.1))).trans (hHeld.2.2.2.2.2.2.2.2.2.2.2.1)
                      have HS12_ := (hb.cell (World.block_lt_of_cell? _ _ (hHeld.2.2.2.2.2.2.2.2.2.2.2.2))).trans (hHeld.2.2.2.2.2.2.2.2.2.2.2.2)
                      refine ⟨_, rfl, ?_⟩
                      replace BK296 := zb BK296 hb
                      replace BK297 := zb BK297 hb
                      replace BK310 := zb BK310 hb
                      replace HB := zB HB hb
                      replace HO289 := Aside0.mk (Kd.R_below (zr HO289) hb)
                      (try clear hb)
                      refine hK.out _ _ ⟨zc BK296 0, zc BK296 1, zc BK296 2, zc BK296 3, zc BK296 4, zc BK297 0, zc BK297 1, zc BK297 2, zc BK297 3, zc BK297 4, zc BK297 5, HS11_, HS12_⟩ (fun hHeld => ?_)
                      clear hK K
                      refine zn 60 ?_
                      exact norm_ (by simp only [putAll, Act.put, List.setIfInBounds_toArray, List.set_cons_zero, List.set_cons_succ]) (hCont (gb310) _ ⟨hHeld, (zr HO289), (zy BK296), (zy BK297), (zy BK310), GW310.out, GE310.out, NB296_310.out, NB310_296.out, NB297_310.out, NB310_297.out, (by repeat (first | (with_reducible first | exact HB.out | apply below_alloc | apply pw_below_drewN | apply below_drew1 | refine below_set ?_ GE296.out | refine below_set ?_ GE297.out | refine below_set ?_ GE310.out) | exact HB.out))⟩)
                  rintro gb310 w43 ⟨hS_, h0_, h1_, h2_, h3_, h4_, h5_, h6_, h7_, h8_, h9_, h10_⟩
                  have n0_ : Aside0 (Kd.R k37 37 w43 w.heap.size (fun _ => True) (.slice (some ad303) t287.length co38) t287) := ⟨h0_⟩
                  have n1_ : Aside0 (w43.heap[gb296]? = some (.cells #[.int .i64 t282, .int .i64 t283, .int .i64 t284, .int .i64 t285, .int .i64 t286] 24 (0, 0))) := ⟨h1_⟩
                  have n2_ : Aside0 (w43.heap[gb297]? = some (.cells #[.bool false, .int .i64 0, .int .i64 0, .int .i64 t293, .int .i64 t294, .int .i64 t295] 29 (0, 0))) := ⟨h2_⟩
                  have n3_ : Aside0 (w43.heap[gb310]? = some (.cells #[.bool false, .int .i64 0, .int .i64 0, .int .i64 0, .int .i64 0, .int .i64 0] 29 (0, 0))) := ⟨h3_⟩
                  have n4_ : Aside0 (w.heap.size ≤ gb310) := ⟨h4_⟩
                  have n5_ : Aside0 (w.heap.size ≤ gb310) := ⟨h5_⟩
                  have n6_ : Aside0 (gb296 ≠ gb310) := ⟨h6_⟩
                  have n7_ : Aside0 (gb310 ≠ gb296) := ⟨h7_⟩
                  have n8_ : Aside0 (gb297 ≠ gb310) := ⟨h8_⟩
                  have n9_ : Aside0 (gb310 ≠ gb297) := ⟨h9_⟩
                  have n10_ : Aside0 (Below w.heap.size w w43) := ⟨h10_⟩
                  clear HO289 BK296 BK297 HB h0_ h1_ h2_ h3_ h4_ h5_ h6_ h7_ h8_ h9_ h10_
                  have HO289 := n0_
                  have BK296 := n1_
                  have BK297 := n2_
                  have BK310 := n3_
                  have GW310 := n4_
                  have GE310 := n5_
                  have NB296_310 := n6_
                  have NB310_296 := n7_
                  have NB297_310 := n8_
                  have NB310_297 := n9_
                  have HB := n10_
                  clear n0_ n1_ n2_ n3_ n4_ n5_ n6_ n7_ n8_ n9_ n10_
                  have hHeld : w43.cell? ⟨gb296, 0, none⟩ = some (.int .i64 t282) ∧ w43.cell? ⟨gb296, 1, none⟩ = some (.int .i64 t283) ∧ w43.cell? ⟨gb296, 2, none⟩ = some (.int .i64 t284) ∧ w43.cell? ⟨gb296, 3, none⟩ = some (.int .i64 t285) ∧ w43.cell? ⟨gb296, 4, none⟩ = some (.int .i64 t286) ∧ w43.cell? ⟨gb297, 0, none⟩ = some (.bool false) ∧ w43.cell? ⟨gb297, 1, none⟩ = some (.int .i64 0) ∧ w43.cell? ⟨gb297, 2, none⟩ = some (.int .i64 0) ∧ w43.cell? ⟨gb297, 3, none⟩ = some (.int .i64 t293) ∧ w43.cell? ⟨gb297, 4, none⟩ = some (.int .i64 t294) ∧ w43.cell? ⟨gb297, 5, none⟩ = some (.int .i64 t295) ∧ w43.cell? (ad303.add (((ji24)).toNat * 2)) = some (.int .i64 ((rd_T37 t287 (ji24)).f0)) ∧ w43.cell? ⟨(ad303.add (((ji24)).toNat * 2)).block, (ad303.add (((ji24)).toNat * 2)).off + 1, none⟩ = some (.int .i64 ((rd_T37 t287 (ji24)).f1)) := hS_
                  refine norm_ (a' := ?_) ?_ ?_
                  rotate_left
                  · simp only [putAll, Act.put, List.setIfInBounds_toArray, List.set_cons_zero, List.set_cons_succ]
                    rfl
                  refine zo 11 (none) (zm 12 4095) HT_ (fun K hK => ?_)
                  have hs44 : w43.cell? ⟨gb310, 0, none⟩ = some (.bool false) := zc BK310 0
                  have hfs44 := blk_frozen BK310.out 0
                  have hns44_0 := NB296_310.out
                  have hns44_1 := NB297_310.out
                  have hms44_0 := NB310_296.out
                  have hms44_1 := NB310_297.out
                  have hs45 : w43.cell? ⟨gb310, 1, none⟩ = some (.int .i64 0) := zc BK310 1
                  have hfs45 := blk_frozen BK310.out 1
                  have hns45_0 := NB296_310.out
                  have hns45_1 := NB297_310.out
                  have hms45_0 := NB310_296.out
                  have hms45_1 := NB310_297.out
                  have hs46 : w43.cell? ⟨gb310, 2, none⟩ = some (.int .i64 0) := zc BK310 2
                  have hfs46 := blk_frozen BK310.out 2
                  have hns46_0 := NB296_310.out
                  have hns46_1 := NB297_310.out
                  have hms46_0 := NB310_296.out
                  have hms46_1 := NB310_297.out
                  have hs47 : w43.cell? ⟨gb310, 3, none⟩ = some (.int .i64 0) := zc BK310 3
                  have hfs47 := blk_frozen BK310.out 3
                  have hns47_0 := NB296_310.out
                  have hns47_1 := NB297_310.out
                  have hms47_0 := NB310_296.out
                  have hms47_1 := NB310_297.out
                  have hs48 : w43.cell? ⟨gb310, 4, none⟩ = some (.int .i64 0) := zc BK310 4
                  have hfs48 := blk_frozen BK310.out 4
                  have hns48_0 := NB296_310.out
                  have hns48_1 := NB297_310.out
                  have hms48_0 := NB310_296.out
                  have hms48_1 := NB310_297.out
                  have hs49 : w43.cell? ⟨gb310, 5, none⟩ = some (.int .i64 0) := zc BK310 5
                  have hfs49 := blk_frozen BK310.out 5
                  have hns49_0 := NB296_310.out
                  have hns49_1 := NB297_310.out
                  have hms49_0 := NB310_296.out
                  have hms49_1 := NB310_297.out
                  refine skip_ (w1 := ?_) (by rfl) rfl ?_ ?_
                  rotate_left
                  · go_simp
                    rfl
                  refine hK.out _ _ ⟨((cell_far (p := ⟨gb310, _, none⟩) NB296_310.out _).trans (((cell_far (p := ⟨gb310, _, none⟩) NB296_310.out _).trans (((cell_far (p := ⟨gb310, _, none⟩) NB296_310.out _).trans (((cell_far (p := ⟨gb310, _, none⟩) NB296_310.out _).trans (((cell_far (p := ⟨gb310, _, none⟩) NB296_310.out _).trans (((cell_far (p := ⟨gb310, _, none⟩) NB296_310.out _).trans (hHeld.1)))))))))))), ((cell_far (p := ⟨gb310, _, none⟩) NB296_310.out _).trans (((cell_far (p := ⟨gb310, _, none⟩) NB296_310.out _).trans (((cell_far (p := ⟨gb310, _, none⟩) NB296_310.out _).trans (((cell_far (p := ⟨gb310, _, none⟩) NB296_310.out _).trans (((cell_far (p := ⟨gb310, _, none⟩) NB296_310.out _).trans (((cell_far (p := ⟨gb310, _, none⟩) NB296_310.out _).trans (hHeld.2.1)))))))))))), ((cell_far (p := ⟨gb310, _, none⟩) NB296_310.out _).trans (((cell_far (p := ⟨gb310, _, none⟩) NB296_310.out _).trans (((cell_far (p := ⟨gb310, _, none⟩) NB296_310.out _).trans (((cell_far (p := ⟨gb310, _, none⟩) NB296_310.out _).trans (((cell_far (p := ⟨gb310, _, none⟩) NB296_310.out _).trans (((cell_far (p := ⟨gb310, _, none⟩) NB296_310.out _).trans (hHeld.2.2.1)))))))))))), ((cell_far (p := ⟨gb310, _, none⟩) NB296_310.out _).trans (((cell_far (p := ⟨gb310, _, none⟩) NB296_310.out _).trans (((cell_far (p := ⟨gb310, _, none⟩) NB296_310.out _).trans (((cell_far (p := ⟨gb310, _, none⟩) NB296_310.out _).trans (((cell_far (p := ⟨gb310, _, none⟩) NB296_310.out _).trans (((cell_far (p := ⟨gb310, _, none⟩) NB296_310.out _).trans (hHeld.2.2.2.1)))))))))))), ((cell_far (p := ⟨gb310, _, none⟩) NB296_310.out _).trans (((cell_far (p := ⟨gb310, _, none⟩) NB296_310.out _).trans (((cell_far (p := ⟨gb310, _, none⟩) NB296_310.out _).trans (((cell_far (p := ⟨gb310, _, none⟩) NB296_310.out _).trans (((cell_far (p := ⟨gb310, _, none⟩) NB296_310.out _).trans (((cell_far (p := ⟨gb310, _, none⟩) NB296_310.out _).trans (hHeld.2.2.2.2.1)))))))))))), ((cell_far (p := ⟨gb310, _, none⟩) NB297_310.out _).trans (((cell_far (p := ⟨gb310, _, none⟩) NB297_310.out _).trans (((cell_far (p := ⟨gb310, _, none⟩) NB297_310.out _).trans (((cell_far (p := ⟨gb310, _, none⟩) NB297_310.out _).trans (((cell_far (p := ⟨gb310, _, none⟩) NB297_310.out _).trans (((cell_far (p := ⟨gb310, _, none⟩) NB297_310.out _).trans (hHeld.2.2.2.2.2.1)))))))))))), ((cell_far (p := ⟨gb310, _, none⟩) NB297_310.out _).trans (((cell_far (p := ⟨gb310, _, none⟩) NB297_310.out _).trans (((cell_far (p := ⟨gb310, _, none⟩) NB297_310.out _).trans (((cell_far (p := ⟨gb310, _, none⟩) NB297_310.out _).trans (((cell_far (p := ⟨gb310, _, none⟩) NB297_310.out _).trans (((cell_far (p := ⟨gb310, _, none⟩) NB297_310.out _).trans (hHeld.2.2.2.2.2.2.1)))))))))))), ((cell_far (p := ⟨gb310, _, none⟩) NB297_310.out _).trans (((cell_far (p := ⟨gb310, _, none⟩) NB297_310.out _).trans (((cell_far (p := ⟨gb310, _, none⟩) NB297_310.out _).trans (((cell_far (p := ⟨gb310, _, none⟩) NB297_310.out _).trans (((cell_far (p := ⟨gb310, _, none⟩) NB297_310.out _).trans (((cell_far (p := ⟨gb310, _, none⟩) NB297_310.out _).trans (hHeld.2.2.2.2.2.2.2.1)))))))))))), ((cell_far (p := ⟨gb310, _, none⟩) NB297_310.out _).trans (((cell_far (p := ⟨gb310, _, none⟩) NB297_310.out _).trans (((cell_far (p := ⟨gb310, _, none⟩) NB297_310.out _).trans (((cell_far (p := ⟨gb310, _, none⟩) NB297_310.out _).trans (((cell_far (p := ⟨gb310, _, none⟩) NB297_310.out _).trans (((cell_far (p := ⟨gb310, _, none⟩) NB297_310.out _).trans (hHeld.2.2.2.2.2.2.2.2.1)))))))))))), ((cell_far (p := ⟨gb310, _, none⟩) NB297_310.out _).trans (((cell_far (p := ⟨gb310, _, none⟩) NB297_310.out _).trans (((cell_far (p := ⟨gb310, _, none⟩) NB297_310.out _).trans (((cell_far (p := ⟨gb310, _, none⟩) NB297_310.out _).trans (((cell_far (p := ⟨gb310, _, none⟩) NB297_310.out _).trans (((cell_far (p := ⟨gb310, _, none⟩) NB297_310.out _).trans (hHeld.2.2.2.2.2.2.2.2.2.1)))))))))))), ((cell_far (p := ⟨gb310, _, none⟩) NB297_310.out _).trans (((cell_far (p := ⟨gb310, _, none⟩) NB297_310.out _).trans (((cell_far (p := ⟨gb310, _, none⟩) NB297_310.out _).trans (((cell_far (p := ⟨gb310, _, none⟩) NB297_310.out _).trans (((cell_far (p := ⟨gb310, _, none⟩) NB297_310.out _).trans (((cell_far (p := ⟨gb310, _, none⟩) NB297_310.out _).trans (hHeld.2.2.2.2.2.2.2.2.2.2.1)))))))))))), ((cell_far (p := ⟨gb310, _, none⟩) (by first | exact Kd.own_blk (Kd.R_ne HO289.out BK310.out (by decide)) | (rw [add_block]; exact Kd.own_blk (Kd.R_ne HO289.out BK310.out (by decide))) | (show (Addr.add _ _).block ≠ _; rw [add_block]; exact Kd.own_blk (Kd.R_ne HO289.out BK310.out (by decide))) | (dsimp only; exact Kd.own_blk (Kd.R_ne HO289.out BK310.out (by decide)))) _).trans (((cell_far (p := ⟨gb310, _, none⟩) (by first | exact Kd.own_blk (Kd.R_ne HO289.out BK310.out (by decide)) | (rw [add_block]; exact Kd.own_blk (Kd.R_ne HO289.out BK310.out (by decide))) | (show (Addr.add _ _).block ≠ _; rw [add_block]; exact Kd.own_blk (Kd.R_ne HO289.out BK310.out (by decide))) | (dsimp only; exact Kd.own_blk (Kd.R_ne HO289.out BK310.out (by decide)))) _).trans (((cell_far (p := ⟨gb310, _, none⟩) (by first | exact Kd.own_blk (Kd.R_ne HO289.out BK310.out (by decide)) | (rw [add_block]; exact Kd.own_blk (Kd.R_ne HO289.out BK310.out (by decide))) | (show (Addr.add _ _).block ≠ _; rw [add_block]; exact Kd.own_blk (Kd.R_ne HO289.out BK310.out (by decide))) | (dsimp only; exact Kd.own_blk (Kd.R_ne HO289.out BK310.out (by decide)))) _).trans (((cell_far (p := ⟨gb310, _, none⟩) (by first | exact Kd.own_blk (Kd.R_ne HO289.out BK310.out (by decide)) | (rw [add_block]; exact Kd.own_blk (Kd.R_ne HO289.out BK310.out (by decide))) | (show (Addr.add _ _).block ≠ _; rw [add_block]; exact Kd.own_blk (Kd.R_ne HO289.out BK310.out (by decide))) | (dsimp only; exact Kd.own_blk (Kd.R_ne HO289.out BK310.out (by decide)))) _).trans (((cell_far (p := ⟨gb310, _, none⟩) (by first | exact Kd.own_blk (Kd.R_ne HO289.out BK310.out (by decide)) | (rw [add_block]; exact Kd.own_blk (Kd.R_ne HO289.out BK310.out (by decide))) | (show (Addr.add _ _).block ≠ _; rw [add_block]; exact Kd.own_blk (Kd.R_ne HO289.out BK310.out (by decide))) | (dsimp only; exact Kd.own_blk (Kd.R_ne HO289.out BK310.out (by decide)))) _).trans (((cell_far (p := ⟨gb310, _, none⟩) (by first | exact Kd.own_blk (Kd.R_ne HO289.out BK310.out (by decide)) | (rw [add_block]; exact Kd.own_blk (Kd.R_ne HO289.out BK310.out (by decide))) | (show (Addr.add _ _).block ≠ _; rw [add_block]; exact Kd.own_blk (Kd.R_ne HO289.out BK310.out (by decide))) | (dsimp only; exact Kd.own_blk (Kd.R_ne HO289.out BK310.out (by decide)))) _).trans (hHeld.2.2.2.2.2.2.2.2.2.2.2.1)))))))))))), ((cell_far (p := ⟨gb310, _, none⟩) (by first | exact Kd.own_blk (Kd.R_ne HO289.out BK310.out (by decide)) | (rw [add_block]; exact Kd.own_blk (Kd.R_ne HO289.out BK310.out (by decide))) | (show (Addr.add _ _).block ≠ _; rw [add_block]; exact Kd.own_blk (Kd.R_ne HO289.out BK310.out (by decide))) | (dsimp only; exact Kd.own_blk (Kd.R_ne HO289.out BK310.out (by decide)))) _).trans (((cell_far (p := ⟨gb310, _, none⟩) (by first | exact Kd.own_blk (Kd.R_ne HO289.out BK310.out (by decide)) | (rw [add_block]; exact Kd.own_blk (Kd.R_ne HO289.out BK310.out (by decide))) | (show (Addr.add _ _).block ≠ _; rw [add_block]; exact Kd.own_blk (Kd.R_ne HO289.out BK310.out (by decide))) | (dsimp only; exact Kd.own_blk (Kd.R_ne HO289.out BK310.out (by decide)))) _).trans (((cell_far (p := ⟨gb310, _, none⟩) (by first | exact Kd.own_blk (Kd.R_ne HO289.out BK310.out (by decide)) | (rw [add_block]; exact Kd.own_blk (Kd.R_ne HO289.out BK310.out (by decide))) | (show (Addr.add _ _).block ≠ _; rw [add_block]; exact Kd.own_blk (Kd.R_ne HO289.out BK310.out (by decide))) | (dsimp only; exact Kd.own_blk (Kd.R_ne HO289.out BK310.out (by decide)))) _).trans (((cell_far (p := ⟨gb310, _, none⟩) (by first | exact Kd.own_blk (Kd.R_ne HO289.out BK310.out (by decide)) | (rw [add_block]; exact Kd.own_blk (Kd.R_ne HO289.out BK310.out (by decide))) | (show (Addr.add _ _).block ≠ _; rw [add_block]; exact Kd.own_blk (Kd.R_ne HO289.out BK310.out (by decide))) | (dsimp only; exact Kd.own_blk (Kd.R_ne HO289.out BK310.out (by decide)))) _).trans (((cell_far (p := ⟨gb310, _, none⟩) (by first | exact Kd.own_blk (Kd.R_ne HO289.out BK310.out (by decide)) | (rw [add_block]; exact Kd.own_blk (Kd.R_ne HO289.out BK310.out (by decide))) | (show (Addr.add _ _).block ≠ _; rw [add_block]; exact Kd.own_blk (Kd.R_ne HO289.out BK310.out (by decide))) | (dsimp only; exact Kd.own_blk (Kd.R_ne HO289.out BK310.out (by decide)))) _).trans (((cell_far (p := ⟨gb310, _, none⟩) (by first | exact Kd.own_blk (Kd.R_ne HO289.out BK310.out (by decide)) | (rw [add_block]; exact Kd.own_blk (Kd.R_ne HO289.out BK310.out (by decide))) | (show (Addr.add _ _).block ≠ _; rw [add_block]; exact Kd.own_blk (Kd.R_ne HO289.out BK310.out (by decide))) | (dsimp only; exact Kd.own_blk (Kd.R_ne HO289.out BK310.out (by decide)))) _).trans (hHeld.2.2.2.2.2.2.2.2.2.2.2.2))))))))))))⟩ (fun hHeld => ?_)
                  clear hK K
                  refine done_ (done_of HT_.out (by kernel_rfl)) ?_
                  have hnb50 := NB296_310.out
                  have hnc50 := NB310_296.out
                  obtain ⟨hcz51_0, hcz51_1, hcz51_2, hcz51_3, hcz51_4, hfz51_0, hfz51_1, hfz51_2, hfz51_3, hfz51_4⟩ := zs5 BK296
                  have hnb52 := NB310_297.out
                  have hnc52 := NB297_310.out
                  obtain ⟨hcz53_0, hcz53_1, hcz53_2, hcz53_3, hcz53_4, hcz53_5, hfz53_0, hfz53_1, hfz53_2, hfz53_3, hfz53_4, hfz53_5⟩ := zs6 BK310
                  try go_wp2_with (first | ((with_reducible refine gate_callee (f := 15) rfl ?_); refine zL (some 66) Try.func15 #[.agg #[.int .i64 t282, .int .i64 t283, .int .i64 t284, .int .i64 t285, .int .i64 t286], .slice (some ad303) t287.length co38, .agg #[.bool true, .int .i64 t305, .int .i64 t306, .int .i64 t307, .int .i64 t308, .int .i64 t309], .agg #[.int .i64 1, .int .i64 (Int.tmod (wrap64 (t301 + (wrap64 (256 * t302)))) 3000)]] ?_; (with_reducible refine (impl_Do.calls kj2 t282 t283 t284 t285 t286 _ _ t287 true t305 t306 t307 t308 t309 1 (Int.tmod (wrap64 (t301 + (wrap64 (256 * t302)))) 3000) t311 t312 t313 t314 t315 t316 _ ?side1 ?side2 A28.out).mono ?_); (case side1 => refine (Kd.R_reads' (e := 37) (base := w.heap.size) (ok := fun k_ => True) (n := t287.length) (c := co38) ?_).2.2; exact (by (with_reducible repeat (first | apply Kd.R_alloc | apply Kd.R_drewN | apply Kd.R_drew)); exact (Kd.R_mono (Kd.R_far (p := ⟨gb310, 5, none⟩) (Kd.R_far (p := ⟨gb310, 4, none⟩) (Kd.R_far (p := ⟨gb310, 3, none⟩) (Kd.R_far (p := ⟨gb310, 2, none⟩) (Kd.R_far (p := ⟨gb310, 1, none⟩) (Kd.R_far (p := ⟨gb310, 0, none⟩) (Kd.R_types HO289.out BK310.out (by decide)) (fun _ hk => hk.2) (.bool true)) (fun _ hk => hk.2) (.int .i64 t305)) (fun _ hk => hk.2) (.int .i64 t306)) (fun _ hk => hk.2) (.int .i64 t307)) (fun _ hk => hk.2) (.int .i64 t308)) (fun _ hk => hk.2) (.int .i64 t309)) (fun _ h_ => h_.1)))); (case side2 => exact (Kd.R_reads' HO289.out).2.1); rintro e w54 ⟨rfl, hb⟩; refine ⟨_, rfl, ?_⟩; have n0_ := Aside0.mk (Kd.R_below (by (with_reducible repeat (first | apply Kd.R_alloc | apply Kd.R_drewN | apply Kd.R_drew)); exact (Kd.R_mono (Kd.R_far (p := ⟨gb310, 5, none⟩) (Kd.R_far (p := ⟨gb310, 4, none⟩) (Kd.R_far (p := ⟨gb310, 3, none⟩) (Kd.R_far (p := ⟨gb310, 2, none⟩) (Kd.R_far (p := ⟨gb310, 1, none⟩) (Kd.R_far (p := ⟨gb310, 0, none⟩) (Kd.R_types HO289.out BK310.out (by decide)) (fun _ hk => hk.2) (.bool true)) (fun _ hk => hk.2) (.int .i64 t305)) (fun _ hk => hk.2) (.int .i64 t306)) (fun _ hk => hk.2) (.int .i64 t307)) (fun _ hk => hk.2) (.int .i64 t308)) (fun _ hk => hk.2) (.int .i64 t309)) (fun _ h_ => h_.1))) hb); have n1_ := Aside0.mk (blk_below (g := gb296) (o := .cells #[.int .i64 t282, .int .i64 t283, .int .i64 t284, .int .i64 t285, .int .i64 t286] 24 (0, 0)) (by (with_reducible repeat (first | refine blk_drewN ?_ _ | refine blk_drew ?_ | refine blk_alloc ?_ _)); refine blk_far ?_ NB296_310.out _; (with_reducible repeat (first | refine blk_drewN ?_ _ | refine blk_drew ?_ | refine blk_alloc ?_ _)); refine blk_far ?_ NB296_310.out _; (with_reducible repeat (first | refine blk_drewN ?_ _ | refine blk_drew ?_ | refine blk_alloc ?_ _)); refine blk_far ?_ NB296_310.out _; (with_reducible repeat (first | refine blk_drewN ?_ _ | refine blk_drew ?_ | refine blk_alloc ?_ _)); refine blk_far ?_ NB296_310.out _; (with_reducible repeat (first | refine blk_drewN ?_ _ | refine blk_drew ?_ | refine blk_alloc ?_ _)); refine blk_far ?_ NB296_310.out _; (with_reducible repeat (first | refine blk_drewN ?_ _ | refine blk_drew ?_ | refine blk_alloc ?_ _)); refine blk_far ?_ NB296_310.out _; (with_reducible repeat (first | refine blk_drewN ?_ _ | refine blk_drew ?_ | refine blk_alloc ?_ _)); exact BK296.out) hb); have n2_ := Aside0.mk (blk_below (g := gb297) (o := .cells #[.bool false, .int .i64 0, .int .i64 0, .int .i64 t293, .int .i64 t294, .int .i64 t295] 29 (0, 0)) (by (with_reducible repeat (first | refine blk_drewN ?_ _ | refine blk_drew ?_ | refine blk_alloc ?_ _)); refine blk_far ?_ NB297_310.out _; (with_reducible repeat (first | refine blk_drewN ?_ _ | refine blk_drew ?_ | refine blk_alloc ?_ _)); refine blk_far ?_ NB297_310.out _; (with_reducible repeat (first | refine blk_drewN ?_ _ | refine blk_drew ?_ | refine blk_alloc ?_ _)); refine blk_far ?_ NB297_310.out _; (with_reducible repeat (first | refine blk_drewN ?_ _ | refine blk_drew ?_ | refine blk_alloc ?_ _)); refine blk_far ?_ NB297_310.out _; (with_reducible repeat (first | refine blk_drewN ?_ _ | refine blk_drew ?_ | refine blk_alloc ?_ _)); refine blk_far ?_ NB297_310.out _; (with_reducible repeat (first | refine blk_drewN ?_ _ | refine blk_drew ?_ | refine blk_alloc ?_ _)); refine blk_far ?_ NB297_310.out _; (with_reducible repeat (first | refine blk_drewN ?_ _ | refine blk_drew ?_ | refine blk_alloc ?_ _)); exact BK297.out) hb); have n3_ := Aside0.mk (blk_below (g := gb310) (o := .cells #[.bool true, .int .i64 t305, .int .i64 t306, .int .i64 t307, .int .i64 t308, .int .i64 t309] 29 (0, 0)) (by (with_reducible repeat (first | refine blk_drewN ?_ _ | refine blk_drew ?_ | refine blk_alloc ?_ _)); refine blk_put (cs := #[.bool true, .int .i64 t305, .int .i64 t306, .int .i64 t307, .int .i64 t308, .int .i64 0]) ?_ 5 _ rfl; (with_reducible repeat (first | refine blk_drewN ?_ _ | refine blk_drew ?_ | refine blk_alloc ?_ _)); refine blk_put (cs := #[.bool true, .int .i64 t305, .int .i64 t306, .int .i64 t307, .int .i64 0, .int .i64 0]) ?_ 4 _ rfl; (with_reducible repeat (first | refine blk_drewN ?_ _ | refine blk_drew ?_ | refine blk_alloc ?_ _)); refine blk_put (cs := #[.bool true, .int .i64 t305, .int .i64 t306, .int .i64 0, .int .i64 0, .int .i64 0]) ?_ 3 _ rfl; (with_reducible repeat (first | refine blk_drewN ?_ _ | refine blk_drew ?_ | refine blk_alloc ?_ _)); refine blk_put (cs := #[.bool true, .int .i64 t305, .int .i64 0, .int .i64 0, .int .i64 0, .int .i64 0]) ?_ 2 _ rfl; (with_reducible repeat (first | refine blk_drewN ?_ _ | refine blk_drew ?_ | refine blk_alloc ?_ _)); refine blk_put (cs := #[.bool true, .int .i64 0, .int .i64 0, .int .i64 0, .int .i64 0, .int .i64 0]) ?_ 1 _ rfl; (with_reducible repeat (first | refine blk_drewN ?_ _ | refine blk_drew ?_ | refine blk_alloc ?_ _)); refine blk_put (cs := #[.bool false, .int .i64 0, .int .i64 0, .int .i64 0, .int .i64 0, .int .i64 0]) ?_ 0 _ rfl; (with_reducible repeat (first | refine blk_drewN ?_ _ | refine blk_drew ?_ | refine blk_alloc ?_ _)); exact BK310.out) hb); have n4_ := Aside0.mk (below_step (by repeat (first | (with_reducible first | exact HB.out | apply below_alloc | apply pw_below_drewN | apply below_drew1 | refine below_set ?_ GE296.out | refine below_set ?_ GE297.out | refine below_set ?_ GE310.out) | exact HB.out)) hb); clear HO289 BK296 BK297 BK310 HB; have HO289 := n0_; have BK296 := n1_; have BK297 := n2_; have BK310 := n3_; have HB := n4_; clear n0_ n1_ n2_ n3_ n4_; (try clear hb)) | ((with_reducible refine gate_dst (N := 11) rfl ?_); (try (refine gate_guard (by rfl) ?_; dsimp only)); refine zx 11 #[.bool false, .int .i64 0, .int .i64 0, .int .i64 0, .int .i64 0, .int .i64 0] 29 ?_; intro gb317 hg w55 hbox hb; have BK317 := Aside0.mk (hbox); have GW317 := zge HB hg; have GE317 := GW317; have NB296_317 := zl BK296 hg; have NB317_296 := zg BK296 hg; have NB297_317 := zl BK297 hg; have NB317_297 := zg BK297 hg; have NB310_317 := zl BK310 hg; have NB317_310 := zg BK310 hg; replace BK296 := zb BK296 hb; replace BK297 := zb BK297 hb; replace BK310 := zb BK310 hb; replace HB := zB HB hb; replace HO289 := Aside0.mk (Kd.R_below (zr HO289) hb); clear hb hbox hg; have hnb56 := NB317_296.out; have hnc56 := NB296_317.out; have hnb57 := NB317_297.out; have hnc57 := NB297_317.out; have hnb58 := NB317_310.out; have hnc58 := NB310_317.out; obtain ⟨hcz59_0, hcz59_1, hcz59_2, hcz59_3, hcz59_4, hcz59_5, hfz59_0, hfz59_1, hfz59_2, hfz59_3, hfz59_4, hfz59_5⟩ := zs6 BK317))
                  (repeat rw [zD])
                  have n0_ : Aside0 (Kd.R k37 37 ((((((w55.setCell ⟨gb317, 0, none⟩ (.bool t311)).setCell ⟨gb317, 1, none⟩ (.int .i64 t312)).setCell ⟨gb317, 2, none⟩ (.int .i64 t313)).setCell ⟨gb317, 3, none⟩ (.int .i64 t314)).setCell ⟨gb317, 4, none⟩ (.int .i64 t315)).setCell ⟨gb317, 5, none⟩ (.int .i64 t316)) w.heap.size (fun _ => True) (.slice (some ad303) t287.length co38) t287) := ⟨by (with_reducible repeat (first | apply Kd.R_alloc | apply Kd.R_drewN | apply Kd.R_drew)); exact Kd.R_mono (Kd.R_far (p := ⟨gb317, 5, none⟩) (Kd.R_far (p := ⟨gb317, 4, none⟩) (Kd.R_far (p := ⟨gb317, 3, none⟩) (Kd.R_far (p := ⟨gb317, 2, none⟩) (Kd.R_far (p := ⟨gb317, 1, none⟩) (Kd.R_far (p := ⟨gb317, 0, none⟩) (Kd.R_types HO289.out BK317.out (by decide)) (fun _ hk => hk.2) (.bool t311)) (fun _ hk => hk.2) (.int .i64 t312)) (fun _ hk => hk.2) (.int .i64 t313)) (fun _ hk => hk.2) (.int .i64 t314)) (fun _ hk => hk.2) (.int .i64 t315)) (fun _ hk => hk.2) (.int .i64 t316)) (fun _ hk => trivial)⟩
                  have n1_ : Aside0 (((((((w55.setCell ⟨gb317, 0, none⟩ (.bool t311)).setCell ⟨gb317, 1, none⟩ (.int .i64 t312)).setCell ⟨gb317, 2, none⟩ (.int .i64 t313)).setCell ⟨gb317, 3, none⟩ (.int .i64 t314)).setCell ⟨gb317, 4, none⟩ (.int .i64 t315)).setCell ⟨gb317, 5, none⟩ (.int .i64 t316)).heap[gb296]? = some (.cells #[.int .i64 t282, .int .i64 t283, .int .i64 t284, .int .i64 t285, .int .i64 t286] 24 (0, 0))) := ⟨by (with_reducible repeat (first | refine blk_drewN ?_ _ | refine blk_drew ?_ | refine blk_alloc ?_ _)); refine blk_far ?_ NB296_317.out _; (with_reducible repeat (first | refine blk_drewN ?_ _ | refine blk_drew ?_ | refine blk_alloc ?_ _)); refine blk_far ?_ NB296_317.out _; (with_reducible repeat (first | refine blk_drewN ?_ _ | refine blk_drew ?_ | refine blk_alloc ?_ _)); refine blk_far ?_ NB296_317.out _; (with_reducible repeat (first | refine blk_drewN ?_ _ | refine blk_drew ?_ | refine blk_alloc ?_ _)); refine blk_far ?_ NB296_317.out _; (with_reducible repeat (first | refine blk_drewN ?_ _ | refine blk_drew ?_ | refine blk_alloc ?_ _)); refine blk_far ?_ NB296_317.out _; (with_reducible repeat (first | refine blk_drewN ?_ _ | refine blk_drew ?_ | refine blk_alloc ?_ _)); refine blk_far ?_ NB296_317.out _; (with_reducible repeat (first | refine blk_drewN ?_ _ | refine blk_drew ?_ | refine blk_alloc ?_ _)); exact BK296.out⟩
                  have n2_ : Aside0 (((((((w55.setCell ⟨gb317, 0, none⟩ (.bool t311)).setCell ⟨gb317, 1, none⟩ (.int .i64 t312)).setCell ⟨gb317, 2, none⟩ (.int .i64 t313)).setCell ⟨gb317, 3, none⟩ (.int .i64 t314)).setCell ⟨gb317, 4, none⟩ (.int .i64 t315)).setCell ⟨gb317, 5, none⟩ (.int .i64 t316)).heap[gb297]? = some (.cells #[.bool false, .int .i64 0, .int .i64 0, .int .i64 t293, .int .i64 t294, .int .i64 t295] 29 (0, 0))) := ⟨by (with_reducible repeat (first | refine blk_drewN ?_ _ | refine blk_drew ?_ | refine blk_alloc ?_ _)); refine blk_far ?_ NB297_317.out _; (with_reducible repeat (first | refine blk_drewN ?_ _ | refine blk_drew ?_ | refine blk_alloc ?_ _)); refine blk_far ?_ NB297_317.out _; (with_reducible repeat (first | refine blk_drewN ?_ _ | refine blk_drew ?_ | refine blk_alloc ?_ _)); refine blk_far ?_ NB297_317.out _; (with_reducible repeat (first | refine blk_drewN ?_ _ | refine blk_drew ?_ | refine blk_alloc ?_ _)); refine blk_far ?_ NB297_317.out _; (with_reducible repeat (first | refine blk_drewN ?_ _ | refine blk_drew ?_ | refine blk_alloc ?_ _)); refine blk_far ?_ NB297_317.out _; (with_reducible repeat (first | refine blk_drewN ?_ _ | refine blk_drew ?_ | refine blk_alloc ?_ _)); refine blk_far ?_ NB297_317.out _; (with_reducible repeat (first | refine blk_drewN ?_ _ | refine blk_drew ?_ | refine blk_alloc ?_ _)); exact BK297.out⟩
                  have n3_ : Aside0 (((((((w55.setCell ⟨gb317, 0, none⟩ (.bool t311)).setCell ⟨gb317, 1, none⟩ (.int .i64 t312)).setCell ⟨gb317, 2, none⟩ (.int .i64 t313)).setCell ⟨gb317, 3, none⟩ (.int .i64 t314)).setCell ⟨gb317, 4, none⟩ (.int .i64 t315)).setCell ⟨gb317, 5, none⟩ (.int .i64 t316)).heap[gb310]? = some (.cells #[.bool true, .int .i64 t305, .int .i64 t306, .int .i64 t307, .int .i64 t308, .int .i64 t309] 29 (0, 0))) := ⟨by (with_reducible repeat (first | refine blk_drewN ?_ _ | refine blk_drew ?_ | refine blk_alloc ?_ _)); refine blk_far ?_ NB310_317.out _; (with_reducible repeat (first | refine blk_drewN ?_ _ | refine blk_drew ?_ | refine blk_alloc ?_ _)); refine blk_far ?_ NB310_317.out _; (with_reducible repeat (first | refine blk_drewN ?_ _ | refine blk_drew ?_ | refine blk_alloc ?_ _)); refine blk_far ?_ NB310_317.out _; (with_reducible repeat (first | refine blk_drewN ?_ _ | refine blk_drew ?_ | refine blk_alloc ?_ _)); refine blk_far ?_ NB310_317.out _; (with_reducible repeat (first | refine blk_drewN ?_ _ | refine blk_drew ?_ | refine blk_alloc ?_ _)); refine blk_far ?_ NB310_317.out _; (with_reducible repeat (first | refine blk_drewN ?_ _ | refine blk_drew ?_ | refine blk_alloc ?_ _)); refine blk_far ?_ NB310_317.out _; (with_reducible repeat (first | refine blk_drewN ?_ _ | refine blk_drew ?_ | refine blk_alloc ?_ _)); exact BK310.out⟩
                  have n4_ : Aside0 (((((((w55.setCell ⟨gb317, 0, none⟩ (.bool t311)).setCell ⟨gb317, 1, none⟩ (.int .i64 t312)).setCell ⟨gb317, 2, none⟩ (.int .i64 t313)).setCell ⟨gb317, 3, none⟩ (.int .i64 t314)).setCell ⟨gb317, 4, none⟩ (.int .i64 t315)).setCell ⟨gb317, 5, none⟩ (.int .i64 t316)).heap[gb317]? = some (.cells #[.bool t311, .int .i64 t312, .int .i64 t313, .int .i64 t314, .int .i64 t315, .int .i64 t316] 29 (0, 0))) := ⟨by (with_reducible repeat (first | refine blk_drewN ?_ _ | refine blk_drew ?_ | refine blk_alloc ?_ _)); refine blk_put (cs := #[.bool t311, .int .i64 t312, .int .i64 t313, .int .i64 t314, .int .i64 t315, .int .i64 0]) ?_ 5 _ rfl; (with_reducible repeat (first | refine blk_drewN ?_ _ | refine blk_drew ?_ | refine blk_alloc ?_ _)); refine blk_put (cs := #[.bool t311, .int .i64 t312, .int .i64 t313, .int .i64 t314, .int .i64 0, .int .i64 0]) ?_ 4 _ rfl; (with_reducible repeat (first | refine blk_drewN ?_ _ | refine blk_drew ?_ | refine blk_alloc ?_ _)); refine blk_put (cs := #[.bool t311, .int .i64 t312, .int .i64 t313, .int .i64 0, .int .i64 0, .int .i64 0]) ?_ 3 _ rfl; (with_reducible repeat (first | refine blk_drewN ?_ _ | refine blk_drew ?_ | refine blk_alloc ?_ _)); refine blk_put (cs := #[.bool t311, .int .i64 t312, .int .i64 0, .int .i64 0, .int .i64 0, .int .i64 0]) ?_ 2 _ rfl; (with_reducible repeat (first | refine blk_drewN ?_ _ | refine blk_drew ?_ | refine blk_alloc ?_ _)); refine blk_put (cs := #[.bool t311, .int .i64 0, .int .i64 0, .int .i64 0, .int .i64 0, .int .i64 0]) ?_ 1 _ rfl; (with_reducible repeat (first | refine blk_drewN ?_ _ | refine blk_drew ?_ | refine blk_alloc ?_ _)); refine blk_put (cs := #[.bool false, .int .i64 0, .int .i64 0, .int .i64 0, .int .i64 0, .int .i64 0]) ?_ 0 _ rfl; (with_reducible repeat (first | refine blk_drewN ?_ _ | refine blk_drew ?_ | refine blk_alloc ?_ _)); exact BK317.out⟩
                  have n5_ : Aside0 (Below w.heap.size w ((((((w55.setCell ⟨gb317, 0, none⟩ (.bool t311)).setCell ⟨gb317, 1, none⟩ (.int .i64 t312)).setCell ⟨gb317, 2, none⟩ (.int .i64 t313)).setCell ⟨gb317, 3, none⟩ (.int .i64 t314)).setCell ⟨gb317, 4, none⟩ (.int .i64 t315)).setCell ⟨gb317, 5, none⟩ (.int .i64 t316))) := ⟨by repeat (first | (with_reducible first | exact HB.out | apply below_alloc | apply pw_below_drewN | apply below_drew1 | refine below_set ?_ GE296.out | refine below_set ?_ GE297.out | refine below_set ?_ GE310.out | refine below_set ?_ GE317.out) | exact HB.out)⟩
                  (try clear HO289)
                  (try clear BK296)
                  (try clear BK297)
                  (try clear BK310)
                  (try clear BK317)
                  (try clear HB)
                  generalize ((((((w55.setCell ⟨gb317, 0, none⟩ (.bool t311)).setCell ⟨gb317, 1, none⟩ (.int .i64 t312)).setCell ⟨gb317, 2, none⟩ (.int .i64 t313)).setCell ⟨gb317, 3, none⟩ (.int .i64 t314)).setCell ⟨gb317, 4, none⟩ (.int .i64 t315)).setCell ⟨gb317, 5, none⟩ (.int .i64 t316)) = w60 at n0_ n1_ n2_ n3_ n4_ n5_ ⊢
                  have HO289 := n0_
                  have BK296 := n1_
                  have BK297 := n2_
                  have BK310 := n3_
                  have BK317 := n4_
                  have HB := n5_
                  clear n0_ n1_ n2_ n3_ n4_ n5_
                  have n0_ := Aside0.mk (Kd.R_drew HO289.out)
                  have n1_ := Aside0.mk (blk_drew BK296.out)
                  have n2_ := Aside0.mk (blk_drew BK297.out)
                  have n3_ := Aside0.mk (blk_drew BK310.out)
                  have n4_ := Aside0.mk (blk_drew BK317.out)
                  have n5_ := Aside0.mk (below_drew1 HB.out)
                  clear HO289 BK296 BK297 BK310 BK317 HB
                  have HO289 := n0_
                  have BK296 := n1_
                  have BK297 := n2_
                  have BK310 := n3_
                  have BK317 := n4_
                  have HB := n5_
                  clear n0_ n1_ n2_ n3_ n4_ n5_
                  refine start_ (n := 23) (S := fun w' => w'.cell? ⟨gb310, 0, none⟩ = some (.bool true) ∧ w'.cell? ⟨gb310, 1, none⟩ = some (.int .i64 t305) ∧ w'.cell? ⟨gb310, 2, none⟩ = some (.int .i64 t306) ∧ w'.cell? ⟨gb310, 3, none⟩ = some (.int .i64 t307) ∧ w'.cell? ⟨gb310, 4, none⟩ = some (.int .i64 t308) ∧ w'.cell? ⟨gb310, 5, none⟩ = some (.int .i64 t309) ∧ w'.cell? ⟨gb317, 0, none⟩ = some (.bool t311) ∧ w'.cell? ⟨gb317, 1, none⟩ = some (.int .i64 t312) ∧ w'.cell? ⟨gb317, 2, none⟩ = some (.int .i64 t313) ∧ w'.cell? ⟨gb317, 3, none⟩ = some (.int .i64 t314) ∧ w'.cell? ⟨gb317, 4, none⟩ = some (.int .i64 t315) ∧ w'.cell? ⟨gb317, 5, none⟩ = some (.int .i64 t316) ∧ w'.cell? ⟨gb296, 0, none⟩ = some (.int .i64 t282) ∧ w'.cell? ⟨gb296, 1, none⟩ = some (.int .i64 t283) ∧ w'.cell? ⟨gb296, 2, none⟩ = some (.int .i64 t284) ∧ w'.cell? ⟨gb296, 3, none⟩ = some (.int .i64 t285) ∧ w'.cell? ⟨gb296, 4, none⟩ = some (.int .i64 t286)) (ds := []) #[false, false, false, false, false, false, false, false, false, false, false, false, false, false, false, false, false, false, false, false, false, false, false] (by kernel_rfl) rfl rfl ⟨zc BK310 0, zc BK310 1, zc BK310 2, zc BK310 3, zc BK310 4, zc BK310 5, zc BK317 0, zc BK317 1, zc BK317 2, zc BK317 3, zc BK317 4, zc BK317 5, zc BK296 0, zc BK296 1, zc BK296 2, zc BK296 3, zc BK296 4⟩ (fun hHeld => ?_); refine with_tabW laws_FnWide.tab12 laws_FnWide.bits12 (fun HT_ HW_ => ?_)
                  generalize w60.drew = w61 at HO289 BK296 BK297 BK310 BK317 HB hHeld ⊢
                  refine zp 0 67 (zm 23 1) HT_ ?_
                  refine zt 1 68 (zm 23 3) HT_ HW_ hHeld ?_
                  refine zp 2 69 (zm 23 7) HT_ ?_
                  refine zp 3 70 (zm 23 15) HT_ ?_
                  refine zp 4 71 (zm 23 31) HT_ ?_
                  refine zp 6 73 (zm 23 95) HT_ ?_
                  refine zp 7 74 (zm 23 223) HT_ ?_
                  refine zp 11 78 (zm 23 2271) HT_ ?_
                  refine zp 12 79 (zm 23 6367) HT_ ?_
                  refine zt 5 72 (zm 23 6399) HT_ HW_ hHeld ?_
                  refine zt 8 75 (zm 23 6655) HT_ HW_ hHeld ?_
                  refine zp 9 76 (zm 23 7167) HT_ ?_
                  refine zt 10 77 (zm 23 8191) HT_ HW_ hHeld ?_
                  refine zo 13 (some 80) (zm 23 16383) HT_ (fun K hK => ?_)
                  refine zG Try.func44 #[.agg #[.int .i64 t282, .int .i64 t283, .int .i64 t284, .int .i64 t285, .int .i64 t286], .slice (some ad303) t287.length co38, .int .i64 (Int.tmod (wrap64 (t301 + (wrap64 (256 * t302)))) 3000)] ?_
                  with_reducible refine (impl_Wide.calls t282 t283 t284 t285 t286 _ _ t287 (Int.tmod (wrap64 (t301 + (wrap64 (256 * t302)))) 3000) t318 _ ?side1 ?side2 A30.out).mono ?_
                  (case side1 => repeat (first | exact (Kd.R_reads' HO289.out).2.2 | (with_reducible refine Kd.C_alloc ?_ _) | (with_reducible refine Kd.C_drewN ?_ _) | (with_reducible refine Kd.C_drew ?_)))
                  (case side2 => exact (Kd.R_reads' HO289.out).2.1)
                  rintro e w62 ⟨rfl, hb⟩
                  refine ⟨_, rfl, ?_⟩
                  replace BK296 := zb BK296 hb
                  replace BK297 := zb BK297 hb
                  replace BK310 := zb BK310 hb
                  replace BK317 := zb BK317 hb
                  replace HB := zB HB hb
                  replace HO289 := Aside0.mk (Kd.R_below (zr HO289) hb)
                  (try clear hb)
                  refine hK.out _ _ ⟨zc BK310 0, zc BK310 1, zc BK310 2, zc BK310 3, zc BK310 4, zc BK310 5, zc BK317 0, zc BK317 1, zc BK317 2, zc BK317 3, zc BK317 4, zc BK317 5, zc BK296 0, zc BK296 1, zc BK296 2, zc BK296 3, zc BK296 4⟩ (fun hHeld => ?_)
                  clear hK K
                  refine zn 80 ?_
                  refine zp 14 81 (zm 23 32767) HT_ ?_
                  refine zp 15 82 (zm 23 65535) HT_ ?_
                  refine zp 16 83 (zm 23 131071) HT_ ?_
                  refine zp 17 84 (zm 23 262143) HT_ ?_
                  refine zp 19 86 (zm 23 786431) HT_ ?_
                  refine zt 18 85 (zm 23 1048575) HT_ HW_ hHeld ?_
                  refine zp 20 87 (zm 23 2097151) HT_ ?_
                  refine zp 21 88 (zm 23 4194303) HT_ ?_
                  refine zp 22 4 (zm 23 8388607) HT_ ?_
                  refine done_ (done_of HT_.out (by kernel_rfl)) ?_
                  try go_wp2
                  go_ret
                  exact ⟨by first | rfl | (simp [errW_none, errW_some] <;> rfl) | (simp only [← hji24]; first | rfl | (simp [errW_none, errW_some] <;> rfl)) | (simp [*, errW_none, errW_some] <;> rfl), by repeat (first | (with_reducible first | exact HB.out | apply below_alloc | apply pw_below_drewN | apply below_drew1 | refine below_set ?_ GE296.out | refine below_set ?_ GE297.out | refine below_set ?_ GE310.out | refine below_set ?_ GE317.out) | exact HB.out)⟩
                · rw [if_neg c31] at H
                  have c31b0 : ((wrap64 (t313 - t312)) == t318) = false := beq_eq_false_iff_ne.mpr c31
                  have c31b1 : ((wrap64 (t313 - t312)) != t318) = true := bne_iff_ne.mpr c31
                  exact absurd ((Option.some.inj H).trans HT.out) (by decide)
              · replace c29 := Bool.eq_false_iff.mpr c29
                subst c29
                have H1 : (some false) = some r := by rw [if_neg (show ¬ (false = true) by decide)] at H; exact H
                clear H
                have H := H1
                clear H1
                exact absurd ((Option.some.inj H).trans HT.out) (by decide)
            · rw [if_neg c26] at H
              exact absurd H (by simp)
          · rw [if_neg c25] at H
            exact absurd H (by simp)

/-- THE ONE PURE STATEMENT of laws_FnWide: yours. -/
def laws_FnWide.Pure : Prop := ∀ (l0 : List Int) (l1 : List Int), l0.length ≤ maxLen → l0.length * 1 ≤ 140737488351232 → (∀ x ∈ l0, (Lit.int .u8 x).wf = true) → l1.length ≤ maxLen → l1.length * 1 ≤ 140737488351232 → (∀ x ∈ l1, (Lit.int .u8 x).wf = true) → ∃ k, laws_FnWide.f k l0 l1 = some true
theorem laws_FnWide.walk (P : laws_FnWide.Pure) (a0 : Option Addr) (len0 cap0 : Nat) (z0 : List Int) (a1 : Option Addr) (len1 cap1 : Nat) (z1 : List Int) (w : World) (w0 : (a0 = none ∧ len0 = 0 ∧ cap0 = 0 ∧ z0 = []) ∨ ∃ x, a0 = some x ∧ len0 ≤ cap0 ∧ cap0 ≤ maxLen ∧ z0.length = cap0 ∧ (∀ i, i < z0.length → w.cell? (x.add i) = some (.int .u8 (z0.getD i 0))) ∧ ∀ n ∈ z0, (Lit.int .u8 n).wf = true) (y0 : len0 * 1 ≤ 140737488351232) (w1 : (a1 = none ∧ len1 = 0 ∧ cap1 = 0 ∧ z1 = []) ∨ ∃ x, a1 = some x ∧ len1 ≤ cap1 ∧ cap1 ≤ maxLen ∧ z1.length = cap1 ∧ (∀ i, i < z1.length → w.cell? (x.add i) = some (.int .u8 (z1.getD i 0))) ∧ ∀ n ∈ z1, (Lit.int .u8 n).wf = true) (y1 : len1 * 1 ≤ 140737488351232) :
    Calls Try.prog 11 #[.slice a0 len0 cap0, .slice a1 len1 cap1] w fun e w' => e = .returned (.bool true) ∧ Below w.heap.size w w' := by
  obtain ⟨l0, rfl, hr0, hm0, hw0, hc0⟩ := ReadsInt.ofRowC w0
  obtain ⟨l1, rfl, hr1, hm1, hw1, hc1⟩ := ReadsInt.ofRowC w1
  obtain ⟨k, h⟩ := P l0 l1 hm0 y0 hw0 hm1 y1 hw1
  refine (laws_FnWide.calls k _ _ l0 _ _ l1 true w (Kd.C_of_reads (d := (0 : Int)) (h1 := fun _ => rfl) hr0) hc0 (Kd.C_of_reads (d := (0 : Int)) (h1 := fun _ => rfl) hr1) hc1 h ⟨rfl⟩).mono ?_
  rintro e w' ⟨rfl, hd⟩
  exact ⟨rfl, hd⟩

end Go.Proofs.Ytommdabkkgcgbaa.QFnWide
