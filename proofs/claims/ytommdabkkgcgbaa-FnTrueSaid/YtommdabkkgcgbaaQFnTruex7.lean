-- Written by a program of this session (wip/tools/turnprint.py over the kit's print), for this claim: functions as plain Lean and their contracts.
import Derived.Test.YtommdabkkgcgbaaQFnTruex0
import Derived.Test.YtommdabkkgcgbaaQFnTruex6
namespace Go.Proofs.Ytommdabkkgcgbaa.QFnTrue
open Go.RowKit Go.Proofs.YtommdabkkgcgbaaW.PrintWords Go.Proofs.YtommdabkkgcgbaaW.PrintLast Go.Proofs.YtommdabkkgcgbaaW.PrintMore
attribute [local go_sem] max2_int min2_int max_two min_two max_three min_three max_four min_four   -- for this text's walks alone
set_option linter.unusedVariables false
set_option linter.unusedSimpArgs false

/-! ### spec_MarksOk: function 36 -/
mutual
def spec_MarksOk.l0 : Nat → List (S37) → List (S37) → Int → Int → Option (Bool)
 | 0, _, _, _, _ => none
 | k + 1, x0, x6, x7, x8 => if x8 < x7 then (if 0 ≤ x8 then (if x8 < (x6.length : Int) then ((spec_l1in.f ((rd_T37 x6 x8).f1) 0 100000000).bind fun t183 => (if t183 = true then (if x8 > 0 then (if 0 ≤ (wrap64 (x8 - 1)) then (if (wrap64 (x8 - 1)) < (x0.length : Int) then (if ((rd_T37 x6 x8).f1) ≤ ((rd_T37 x0 (wrap64 (x8 - 1))).f1) then (spec_MarksOk.j1 k x0 x8 x6 x7 x8 true ((rd_T37 x6 x8).f0) ((rd_T37 x6 x8).f1)) else ((spec_l1in.f ((rd_T37 x6 x8).f0) 1 1000000000).bind fun t185 => (spec_MarksOk.j1 k x0 x8 x6 x7 x8 (!t185) ((rd_T37 x6 x8).f0) ((rd_T37 x6 x8).f1)))) else (none)) else (none)) else ((spec_l1in.f ((rd_T37 x6 x8).f0) 1 1000000000).bind fun t186 => (spec_MarksOk.j1 k x0 x8 x6 x7 x8 (!t186) ((rd_T37 x6 x8).f0) ((rd_T37 x6 x8).f1)))) else (spec_MarksOk.j1 k x0 x8 x6 x7 x8 true ((rd_T37 x6 x8).f0) ((rd_T37 x6 x8).f1)))) else (none)) else (none)) else (some (decide ((x0.length : Int) ≤ 100)))
def spec_MarksOk.j1 : Nat → List (S37) → Int → List (S37) → Int → Int → Bool → Int → Int → Option (Bool)
 | 0, _, _, _, _, _, _, _, _ => none
 | k + 1, x0, x3, x6, x7, x8, x37, x183000, x183001 => if x37 = true then (some false) else (spec_MarksOk.l1 k x0 x3 0 x6 x7 x8 x183000 x183001)
def spec_MarksOk.l1 : Nat → List (S37) → Int → Int → List (S37) → Int → Int → Int → Int → Option (Bool)
 | 0, _, _, _, _, _, _, _, _ => none
 | k + 1, x0, x3, x5, x6, x7, x8, x183000, x183001 => if x5 < x3 then (if 0 ≤ x5 then (if x5 < (x0.length : Int) then (if ((rd_T37 x0 x5).f0) = x183000 then (some false) else (spec_MarksOk.l1 k x0 x3 (wrap64 (x5 + 1)) x6 x7 x8 x183000 x183001)) else (none)) else (none)) else (spec_MarksOk.l0 k x0 x6 x7 (wrap64 (x8 + 1)))
end
def spec_MarksOk.f (k : Nat) (l0 : List (S37)) : Option (Bool) := spec_MarksOk.l0 k l0 l0 (l0.length : Int) 0
theorem spec_MarksOk.mono_l : ∀ k, (∀ y0 y1 y2 y3, LeO (spec_MarksOk.l0 k y0 y1 y2 y3) (spec_MarksOk.l0 (k + 1) y0 y1 y2 y3)) ∧ (∀ y0 y1 y2 y3 y4 y5 y6 y7, LeO (spec_MarksOk.j1 k y0 y1 y2 y3 y4 y5 y6 y7) (spec_MarksOk.j1 (k + 1) y0 y1 y2 y3 y4 y5 y6 y7)) ∧ (∀ y0 y1 y2 y3 y4 y5 y6 y7, LeO (spec_MarksOk.l1 k y0 y1 y2 y3 y4 y5 y6 y7) (spec_MarksOk.l1 (k + 1) y0 y1 y2 y3 y4 y5 y6 y7))
 | 0 => ⟨fun _ _ _ _ r h => by simp [spec_MarksOk.l0] at h, fun _ _ _ _ _ _ _ _ r h => by simp [spec_MarksOk.j1] at h, fun _ _ _ _ _ _ _ _ r h => by simp [spec_MarksOk.l1] at h⟩
 | k + 1 => by
  obtain ⟨ih0, ih1, ih2⟩ := spec_MarksOk.mono_l k
  refine ⟨?_, ?_, ?_⟩
  ·intro y0 y1 y2 y3
   unfold spec_MarksOk.l0
   repeat' first
   | (with_reducible exact ih0 _ _ _ _)
   | (with_reducible exact ih1 _ _ _ _ _ _ _ _)
   | (with_reducible exact ih2 _ _ _ _ _ _ _ _)
   | (with_reducible exact LeO.refl _)
   | (with_reducible exact LeO.none _)
   | (with_reducible refine LeO.ite ?_ ?_)
   | (with_reducible refine LeO.bind ?_ (fun _ => ?_))
   | exact ih0 _ _ _ _
   | exact ih1 _ _ _ _ _ _ _ _
   | exact ih2 _ _ _ _ _ _ _ _
   | exact LeO.none _
   | refine LeO.ite ?_ ?_
   | refine LeO.bind ?_ (fun _ => ?_)
  ·intro y0 y1 y2 y3 y4 y5 y6 y7
   unfold spec_MarksOk.j1
   repeat' first
   | (with_reducible exact ih0 _ _ _ _)
   | (with_reducible exact ih1 _ _ _ _ _ _ _ _)
   | (with_reducible exact ih2 _ _ _ _ _ _ _ _)
   | (with_reducible exact LeO.refl _)
   | (with_reducible exact LeO.none _)
   | (with_reducible refine LeO.ite ?_ ?_)
   | (with_reducible refine LeO.bind ?_ (fun _ => ?_))
   | exact ih0 _ _ _ _
   | exact ih1 _ _ _ _ _ _ _ _
   | exact ih2 _ _ _ _ _ _ _ _
   | exact LeO.none _
   | refine LeO.ite ?_ ?_
   | refine LeO.bind ?_ (fun _ => ?_)
  ·intro y0 y1 y2 y3 y4 y5 y6 y7
   unfold spec_MarksOk.l1
   repeat' first
   | (with_reducible exact ih0 _ _ _ _)
   | (with_reducible exact ih1 _ _ _ _ _ _ _ _)
   | (with_reducible exact ih2 _ _ _ _ _ _ _ _)
   | (with_reducible exact LeO.refl _)
   | (with_reducible exact LeO.none _)
   | (with_reducible refine LeO.ite ?_ ?_)
   | (with_reducible refine LeO.bind ?_ (fun _ => ?_))
   | exact ih0 _ _ _ _
   | exact ih1 _ _ _ _ _ _ _ _
   | exact ih2 _ _ _ _ _ _ _ _
   | exact LeO.none _
   | refine LeO.ite ?_ ?_
   | refine LeO.bind ?_ (fun _ => ?_)
theorem spec_MarksOk.mono : ∀ a0 k, LeO (spec_MarksOk.f k a0) (spec_MarksOk.f (k + 1) a0) := by
 intro a0 k
 obtain ⟨ih0, ih1, ih2⟩ := spec_MarksOk.mono_l k
 unfold spec_MarksOk.f
 repeat' first
   | (with_reducible exact ih0 _ _ _ _)
   | (with_reducible exact ih1 _ _ _ _ _ _ _ _)
   | (with_reducible exact ih2 _ _ _ _ _ _ _ _)
   | (with_reducible exact LeO.refl _)
   | (with_reducible exact LeO.none _)
   | (with_reducible refine LeO.ite ?_ ?_)
   | (with_reducible refine LeO.bind ?_ (fun _ => ?_))
   | exact ih0 _ _ _ _
   | exact ih1 _ _ _ _ _ _ _ _
   | exact ih2 _ _ _ _ _ _ _ _
   | exact LeO.none _
   | refine LeO.ite ?_ ?_
   | refine LeO.bind ?_ (fun _ => ?_)
set_option maxHeartbeats 8000000 in
set_option maxRecDepth 100000 in
theorem spec_MarksOk.calls (k : Nat) (A0 : Option Addr) (c0 : Nat) (l0 : List (S37)) (r : Bool) (w : World) (hr0 : Kd.C k37 w A0 l0.length l0) (hc0 : l0.length ≤ c0) (h : spec_MarksOk.f k l0 = some r) :
  Calls Try.prog 36 #[.slice A0 l0.length c0] w fun e w' => e = .returned (.bool r) ∧ Below w.heap.size w w' := by
 have hu37 := Try.underlying37
 have HR0 := Aside0.mk hr0
 have HC0 := Aside0.mk hc0
 clear hr0 hc0
 have HB := Aside0.mk (Below.refl w.heap.size w)
 have H : (spec_MarksOk.l0 k l0 l0 (l0.length : Int) 0) = some r := h
 clear h
 have H' := Aside0.mk H
 clear H
 go_enter Try.func36, Try.ntmps36
 go_wp2
 repeat (go_quiet (fail); try go_wp2)
 go_loopg [8] k (fun kq v8 w' => ∃ (x8_1 : Int), v8 = .int .i64 x8_1 ∧ Aside0 (spec_MarksOk.l0 kq l0 l0 (l0.length : Int) x8_1 = some r) ∧ Aside0 (kq ≤ k) ∧ Aside0 (Below w.heap.size w w'))
 case atStart => exact ⟨(0), ze, H', ⟨Nat.le_refl _⟩, ⟨zh HB⟩⟩
 case round =>
  clear H'
  obtain ⟨x8_1, rfl, HA, HK1, HB⟩ := hrel
  cases gk with
  | zero => exact absurd HA.out (by simp [spec_MarksOk.l0])
  | succ k1 =>
   have H := HA.out
   clear HA
   simp only [spec_MarksOk.l0] at H
   by_cases c2 : x8_1 < (l0.length : Int)
   ·rw [if_pos c2] at H
    have c2b0 : decide (x8_1 < (l0.length : Int)) = true := decide_eq_true c2
    clear c2
    by_cases c3 : 0 ≤ x8_1
    ·rw [if_pos c3] at H
     have c3b0 : decide (0 ≤ x8_1) = true := decide_eq_true c3
     clear c3
     by_cases c4 : x8_1 < (l0.length : Int)
     ·rw [if_pos c4] at H
      have c4b0 : decide (x8_1 < (l0.length : Int)) = true := decide_eq_true c4
      clear c4
      have HC5 := Aside0.mk H
      clear H
      have p181 : 0 ≤ (x8_1 : Int) := of_decide_eq_true (by first | (with_reducible assumption) | assumption)
      have q181 : x8_1 < (l0.length : Int) := of_decide_eq_true (by first | (with_reducible assumption) | assumption)
      obtain ⟨ad181, e181, hx181_0, hx181_1⟩ := at_T37 HR0.out x8_1 p181 q181
      cases e181
      replace hx181_0 := (HB.out.cell (World.block_lt_of_cell? w _ hx181_0)).trans hx181_0
      replace hx181_1 := (HB.out.cell (World.block_lt_of_cell? w _ hx181_1)).trans hx181_1
      replace p181 := eq_true p181
      replace q181 := eq_true q181
      go_upto_region 4 with (first | ((with_reducible refine gate_dst (N := 4) rfl ?_); refine zx 4 #[.int .i64 0, .int .i64 0] 37 ?_; intro gb182 hg w6 hbox hb; have BK182 := Aside0.mk (hbox); have GW182 := zge HB hg; have GE182 := GW182; replace HB := zB HB hb; clear hb hbox hg; obtain ⟨hcz7_0, hcz7_1, hfz7_0, hfz7_1⟩ := zs2 BK182))
      repeat (go_quiet (first | ((with_reducible refine gate_dst (N := 4) rfl ?_); refine zx 4 #[.int .i64 0, .int .i64 0] 37 ?_; intro gb182 hg w6 hbox hb; have BK182 := Aside0.mk (hbox); have GW182 := zge HB hg; have GE182 := GW182; replace HB := zB HB hb; clear hb hbox hg; obtain ⟨hcz7_0, hcz7_1, hfz7_0, hfz7_1⟩ := zs2 BK182)); go_upto_region 4 with (first | ((with_reducible refine gate_dst (N := 4) rfl ?_); refine zx 4 #[.int .i64 0, .int .i64 0] 37 ?_; intro gb182 hg w6 hbox hb; have BK182 := Aside0.mk (hbox); have GW182 := zge HB hg; have GE182 := GW182; replace HB := zB HB hb; clear hb hbox hg; obtain ⟨hcz7_0, hcz7_1, hfz7_0, hfz7_1⟩ := zs2 BK182)))
      (try simp only [Act.put, List.setIfInBounds_toArray, List.set_cons_zero, List.set_cons_succ])
      go_cut [37] (fun v37 wc => ∃ (kq : Nat) (x37_4 : Bool), v37 = .bool x37_4 ∧ Aside0 (spec_MarksOk.j1 kq l0 x8_1 l0 (l0.length : Int) x8_1 x37_4 ((rd_T37 l0 x8_1).f0) ((rd_T37 l0 x8_1).f1) = some r) ∧ Aside0 (kq ≤ k1) ∧ Aside0 (wc.heap[gb182]? = some (.cells #[.int .i64 ((rd_T37 l0 x8_1).f0), .int .i64 ((rd_T37 l0 x8_1).f1)] 37 (0, 0))) ∧ Aside0 (Below w.heap.size w wc))
      case first =>
       have H := HC5.out
       clear HC5
       replace H := Option.bind_eq_some_iff.mp H
       obtain ⟨t183, A80, H⟩ := H
       replace H : (if t183 = true then (if x8_1 > 0 then (if 0 ≤ (wrap64 (x8_1 - 1)) then (if (wrap64 (x8_1 - 1)) < (l0.length : Int) then (if ((rd_T37 l0 x8_1).f1) ≤ ((rd_T37 l0 (wrap64 (x8_1 - 1))).f1) then (spec_MarksOk.j1 k1 l0 x8_1 l0 (l0.length : Int) x8_1 true ((rd_T37 l0 x8_1).f0) ((rd_T37 l0 x8_1).f1)) else ((spec_l1in.f ((rd_T37 l0 x8_1).f0) 1 1000000000).bind fun t185 => (spec_MarksOk.j1 k1 l0 x8_1 l0 (l0.length : Int) x8_1 (!t185) ((rd_T37 l0 x8_1).f0) ((rd_T37 l0 x8_1).f1)))) else (none)) else (none)) else ((spec_l1in.f ((rd_T37 l0 x8_1).f0) 1 1000000000).bind fun t186 => (spec_MarksOk.j1 k1 l0 x8_1 l0 (l0.length : Int) x8_1 (!t186) ((rd_T37 l0 x8_1).f0) ((rd_T37 l0 x8_1).f1)))) else (spec_MarksOk.j1 k1 l0 x8_1 l0 (l0.length : Int) x8_1 true ((rd_T37 l0 x8_1).f0) ((rd_T37 l0 x8_1).f1))) = some r := H
       have A8 := Aside0.mk A80
       clear A80
       by_cases c9 : t183 = true
       ·subst c9
        have H1 : (if x8_1 > 0 then (if 0 ≤ (wrap64 (x8_1 - 1)) then (if (wrap64 (x8_1 - 1)) < (l0.length : Int) then (if ((rd_T37 l0 x8_1).f1) ≤ ((rd_T37 l0 (wrap64 (x8_1 - 1))).f1) then (spec_MarksOk.j1 k1 l0 x8_1 l0 (l0.length : Int) x8_1 true ((rd_T37 l0 x8_1).f0) ((rd_T37 l0 x8_1).f1)) else ((spec_l1in.f ((rd_T37 l0 x8_1).f0) 1 1000000000).bind fun t185 => (spec_MarksOk.j1 k1 l0 x8_1 l0 (l0.length : Int) x8_1 (!t185) ((rd_T37 l0 x8_1).f0) ((rd_T37 l0 x8_1).f1)))) else (none)) else (none)) else ((spec_l1in.f ((rd_T37 l0 x8_1).f0) 1 1000000000).bind fun t186 => (spec_MarksOk.j1 k1 l0 x8_1 l0 (l0.length : Int) x8_1 (!t186) ((rd_T37 l0 x8_1).f0) ((rd_T37 l0 x8_1).f1)))) = some r := by rw [if_pos rfl] at H; exact H
        clear H
        have H := H1
        clear H1
        by_cases c10 : x8_1 > 0
        ·rw [if_pos c10] at H
         have c10b0 : decide (0 < x8_1) = true := decide_eq_true c10
         clear c10
         (first | rw [c10b0] | (simp only [i64_w, i32_w]; rw [c10b0]) | skip)
         obtain ⟨ji11, hji11⟩ : ∃ j_ : Int, (wrap64 (x8_1 - 1)) = j_ := ⟨_, rfl⟩
         replace H : (if 0 ≤ (ji11) then (if (ji11) < (l0.length : Int) then (if ((rd_T37 l0 x8_1).f1) ≤ ((rd_T37 l0 (ji11)).f1) then (spec_MarksOk.j1 k1 l0 x8_1 l0 (l0.length : Int) x8_1 true ((rd_T37 l0 x8_1).f0) ((rd_T37 l0 x8_1).f1)) else ((spec_l1in.f ((rd_T37 l0 x8_1).f0) 1 1000000000).bind fun t185 => (spec_MarksOk.j1 k1 l0 x8_1 l0 (l0.length : Int) x8_1 (!t185) ((rd_T37 l0 x8_1).f0) ((rd_T37 l0 x8_1).f1)))) else (none)) else (none)) = some r := by first | (rw [hji11] at H; exact H) | (simp only [hji11] at H ⊢; exact H)
         (try rw [hji11] at A8)
         have hji11w : (IntKind.i64.wrap (x8_1 - 1)) = ji11 := (i64_w _).trans hji11
         by_cases c12 : 0 ≤ (ji11)
         ·rw [if_pos c12] at H
          have c12b0 : decide (0 ≤ (ji11)) = true := decide_eq_true c12
          clear c12
          by_cases c13 : (ji11) < (l0.length : Int)
          ·rw [if_pos c13] at H
           have c13b0 : decide ((ji11) < (l0.length : Int)) = true := decide_eq_true c13
           clear c13
           by_cases c14 : ((rd_T37 l0 x8_1).f1) ≤ ((rd_T37 l0 (ji11)).f1)
           ·rw [if_pos c14] at H
            have c14b0 : decide (((rd_T37 l0 x8_1).f1) ≤ ((rd_T37 l0 (ji11)).f1)) = true := decide_eq_true c14
            clear c14
            have H' := Aside0.mk H
            clear H
            obtain ⟨hcz15_0, hcz15_1, hfz15_0, hfz15_1⟩ := zs2 BK182
            go_wp2_with (first | (go_at_call 80; (with_reducible refine (spec_l1in.calls ((rd_T37 l0 x8_1).f1) 0 100000000 true _ A8.out).mono ?_); rintro e w' ⟨rfl, ⟨nd, rfl⟩⟩; (try first | exact ⟨rfl, _, World.drewN_drewN _ _ _⟩ | exact ⟨rfl, _, Eq.trans (World.drewN_drewN _ _ _) (congrArg (World.drewN _) (Nat.add_assoc _ _ _))⟩); have p184 : 0 ≤ ((ji11) : Int) := of_decide_eq_true (by first | (with_reducible assumption) | assumption); have q184 : (ji11) < (l0.length : Int) := of_decide_eq_true (by first | (with_reducible assumption) | assumption); obtain ⟨ad184, e184, hx184_0, hx184_1⟩ := at_T37 HR0.out (ji11) p184 q184; obtain rfl : ad181 = ad184 := (by injection e184); have hn184_0 : ad181.block ≠ gb182 := Nat.ne_of_lt (Nat.lt_of_lt_of_le (by have := World.block_lt_of_cell? _ _ hx184_0; first | rwa [add_block] at this | exact this) GW182.out); have hn184_1 : ad181.block ≠ gb182 := Nat.ne_of_lt (Nat.lt_of_lt_of_le (by have := World.block_lt_of_cell? _ _ hx184_0; first | rwa [add_block] at this | exact this) GW182.out); replace hx184_0 := (HB.out.cell (World.block_lt_of_cell? w _ hx184_0)).trans hx184_0; replace hx184_1 := (HB.out.cell (World.block_lt_of_cell? w _ hx184_1)).trans hx184_1; replace hx184_0 := (cell_far (p := ⟨gb182, 0, none⟩) (by first | (rw [add_block]; exact hn184_0) | (show (Addr.add _ _).block ≠ _; rw [add_block]; exact hn184_0) | exact hn184_0) (.int .i64 ((rd_T37 l0 x8_1).f0))).trans hx184_0; replace hx184_1 := (cell_far (p := ⟨gb182, 0, none⟩) (by first | (rw [add_block]; exact hn184_0) | (show (Addr.add _ _).block ≠ _; rw [add_block]; exact hn184_0) | exact hn184_0) (.int .i64 ((rd_T37 l0 x8_1).f0))).trans hx184_1; replace hx184_0 := (cell_far (p := ⟨gb182, 1, none⟩) (by first | (rw [add_block]; exact hn184_1) | (show (Addr.add _ _).block ≠ _; rw [add_block]; exact hn184_1) | exact hn184_1) (.int .i64 ((rd_T37 l0 x8_1).f1))).trans hx184_0; replace hx184_1 := (cell_far (p := ⟨gb182, 1, none⟩) (by first | (rw [add_block]; exact hn184_1) | (show (Addr.add _ _).block ≠ _; rw [add_block]; exact hn184_1) | exact hn184_1) (.int .i64 ((rd_T37 l0 x8_1).f1))).trans hx184_1; (try have hy184_0 := fun (n_ : Nat) => (show ((((w6.drewN n_).setCell ⟨gb182, 0, none⟩ (.int .i64 ((rd_T37 l0 x8_1).f0))).setCell ⟨gb182, 1, none⟩ (.int .i64 ((rd_T37 l0 x8_1).f1)))).cell? _ = some _ from hx184_0)); (try have hy184_1 := fun (n_ : Nat) => (show ((((w6.drewN n_).setCell ⟨gb182, 0, none⟩ (.int .i64 ((rd_T37 l0 x8_1).f0))).setCell ⟨gb182, 1, none⟩ (.int .i64 ((rd_T37 l0 x8_1).f1)))).cell? _ = some _ from hx184_1)); clear hn184_0; clear hn184_1; replace p184 := eq_true p184; replace q184 := eq_true q184))
            repeat (go_quiet (first | (go_at_call 80; (with_reducible refine (spec_l1in.calls ((rd_T37 l0 x8_1).f1) 0 100000000 true _ A8.out).mono ?_); rintro e w' ⟨rfl, ⟨nd, rfl⟩⟩; (try first | exact ⟨rfl, _, World.drewN_drewN _ _ _⟩ | exact ⟨rfl, _, Eq.trans (World.drewN_drewN _ _ _) (congrArg (World.drewN _) (Nat.add_assoc _ _ _))⟩); have p184 : 0 ≤ ((ji11) : Int) := of_decide_eq_true (by first | (with_reducible assumption) | assumption); have q184 : (ji11) < (l0.length : Int) := of_decide_eq_true (by first | (with_reducible assumption) | assumption); obtain ⟨ad184, e184, hx184_0, hx184_1⟩ := at_T37 HR0.out (ji11) p184 q184; obtain rfl : ad181 = ad184 := (by injection e184); have hn184_0 : ad181.block ≠ gb182 := Nat.ne_of_lt (Nat.lt_of_lt_of_le (by have := World.block_lt_of_cell? _ _ hx184_0; first | rwa [add_block] at this | exact this) GW182.out); have hn184_1 : ad181.block ≠ gb182 := Nat.ne_of_lt (Nat.lt_of_lt_of_le (by have := World.block_lt_of_cell? _ _ hx184_0; first | rwa [add_block] at this | exact this) GW182.out); replace hx184_0 := (HB.out.cell (World.block_lt_of_cell? w _ hx184_0)).trans hx184_0; replace hx184_1 := (HB.out.cell (World.block_lt_of_cell? w _ hx184_1)).trans hx184_1; replace hx184_0 := (cell_far (p := ⟨gb182, 0, none⟩) (by first | (rw [add_block]; exact hn184_0) | (show (Addr.add _ _).block ≠ _; rw [add_block]; exact hn184_0) | exact hn184_0) (.int .i64 ((rd_T37 l0 x8_1).f0))).trans hx184_0; replace hx184_1 := (cell_far (p := ⟨gb182, 0, none⟩) (by first | (rw [add_block]; exact hn184_0) | (show (Addr.add _ _).block ≠ _; rw [add_block]; exact hn184_0) | exact hn184_0) (.int .i64 ((rd_T37 l0 x8_1).f0))).trans hx184_1; replace hx184_0 := (cell_far (p := ⟨gb182, 1, none⟩) (by first | (rw [add_block]; exact hn184_1) | (show (Addr.add _ _).block ≠ _; rw [add_block]; exact hn184_1) | exact hn184_1) (.int .i64 ((rd_T37 l0 x8_1).f1))).trans hx184_0; replace hx184_1 := (cell_far (p := ⟨gb182, 1, none⟩) (by first | (rw [add_block]; exact hn184_1) | (show (Addr.add _ _).block ≠ _; rw [add_block]; exact hn184_1) | exact hn184_1) (.int .i64 ((rd_T37 l0 x8_1).f1))).trans hx184_1; (try have hy184_0 := fun (n_ : Nat) => (show ((((w6.drewN n_).setCell ⟨gb182, 0, none⟩ (.int .i64 ((rd_T37 l0 x8_1).f0))).setCell ⟨gb182, 1, none⟩ (.int .i64 ((rd_T37 l0 x8_1).f1)))).cell? _ = some _ from hx184_0)); (try have hy184_1 := fun (n_ : Nat) => (show ((((w6.drewN n_).setCell ⟨gb182, 0, none⟩ (.int .i64 ((rd_T37 l0 x8_1).f0))).setCell ⟨gb182, 1, none⟩ (.int .i64 ((rd_T37 l0 x8_1).f1)))).cell? _ = some _ from hx184_1)); clear hn184_0; clear hn184_1; replace p184 := eq_true p184; replace q184 := eq_true q184)); try go_wp2_with (first | (go_at_call 80; (with_reducible refine (spec_l1in.calls ((rd_T37 l0 x8_1).f1) 0 100000000 true _ A8.out).mono ?_); rintro e w' ⟨rfl, ⟨nd, rfl⟩⟩; (try first | exact ⟨rfl, _, World.drewN_drewN _ _ _⟩ | exact ⟨rfl, _, Eq.trans (World.drewN_drewN _ _ _) (congrArg (World.drewN _) (Nat.add_assoc _ _ _))⟩); have p184 : 0 ≤ ((ji11) : Int) := of_decide_eq_true (by first | (with_reducible assumption) | assumption); have q184 : (ji11) < (l0.length : Int) := of_decide_eq_true (by first | (with_reducible assumption) | assumption); obtain ⟨ad184, e184, hx184_0, hx184_1⟩ := at_T37 HR0.out (ji11) p184 q184; obtain rfl : ad181 = ad184 := (by injection e184); have hn184_0 : ad181.block ≠ gb182 := Nat.ne_of_lt (Nat.lt_of_lt_of_le (by have := World.block_lt_of_cell? _ _ hx184_0; first | rwa [add_block] at this | exact this) GW182.out); have hn184_1 : ad181.block ≠ gb182 := Nat.ne_of_lt (Nat.lt_of_lt_of_le (by have := World.block_lt_of_cell? _ _ hx184_0; first | rwa [add_block] at this | exact this) GW182.out); replace hx184_0 := (HB.out.cell (World.block_lt_of_cell? w _ hx184_0)).trans hx184_0; replace hx184_1 := (HB.out.cell (World.block_lt_of_cell? w _ hx184_1)).trans hx184_1; replace hx184_0 := (cell_far (p := ⟨gb182, 0, none⟩) (by first | (rw [add_block]; exact hn184_0) | (show (Addr.add _ _).block ≠ _; rw [add_block]; exact hn184_0) | exact hn184_0) (.int .i64 ((rd_T37 l0 x8_1).f0))).trans hx184_0; replace hx184_1 := (cell_far (p := ⟨gb182, 0, none⟩) (by first | (rw [add_block]; exact hn184_0) | (show (Addr.add _ _).block ≠ _; rw [add_block]; exact hn184_0) | exact hn184_0) (.int .i64 ((rd_T37 l0 x8_1).f0))).trans hx184_1; replace hx184_0 := (cell_far (p := ⟨gb182, 1, none⟩) (by first | (rw [add_block]; exact hn184_1) | (show (Addr.add _ _).block ≠ _; rw [add_block]; exact hn184_1) | exact hn184_1) (.int .i64 ((rd_T37 l0 x8_1).f1))).trans hx184_0; replace hx184_1 := (cell_far (p := ⟨gb182, 1, none⟩) (by first | (rw [add_block]; exact hn184_1) | (show (Addr.add _ _).block ≠ _; rw [add_block]; exact hn184_1) | exact hn184_1) (.int .i64 ((rd_T37 l0 x8_1).f1))).trans hx184_1; (try have hy184_0 := fun (n_ : Nat) => (show ((((w6.drewN n_).setCell ⟨gb182, 0, none⟩ (.int .i64 ((rd_T37 l0 x8_1).f0))).setCell ⟨gb182, 1, none⟩ (.int .i64 ((rd_T37 l0 x8_1).f1)))).cell? _ = some _ from hx184_0)); (try have hy184_1 := fun (n_ : Nat) => (show ((((w6.drewN n_).setCell ⟨gb182, 0, none⟩ (.int .i64 ((rd_T37 l0 x8_1).f0))).setCell ⟨gb182, 1, none⟩ (.int .i64 ((rd_T37 l0 x8_1).f1)))).cell? _ = some _ from hx184_1)); clear hn184_0; clear hn184_1; replace p184 := eq_true p184; replace q184 := eq_true q184)))
            go_meet
            case rel => exact ⟨_, (true), ze, H', ⟨by have := HK1.out; first | omega | exact Nat.le_refl _⟩, ⟨by (with_reducible repeat (first | refine blk_drewN ?_ _ | refine blk_drew ?_ | refine blk_alloc ?_ _)); refine blk_put (cs := #[.int .i64 ((rd_T37 l0 x8_1).f0), .int .i64 0]) ?_ 1 _ rfl; (with_reducible repeat (first | refine blk_drewN ?_ _ | refine blk_drew ?_ | refine blk_alloc ?_ _)); refine blk_put (cs := #[.int .i64 0, .int .i64 0]) ?_ 0 _ rfl; (with_reducible repeat (first | refine blk_drewN ?_ _ | refine blk_drew ?_ | refine blk_alloc ?_ _)); exact BK182.out⟩, ⟨by repeat (first | (with_reducible first | exact HB.out | apply below_alloc | apply pw_below_drewN | apply below_drew1 | refine below_set ?_ GE182.out) | exact HB.out)⟩⟩
           ·rw [if_neg c14] at H
            have c14b0 : decide (((rd_T37 l0 x8_1).f1) ≤ ((rd_T37 l0 (ji11)).f1)) = false := decide_eq_false c14
            clear c14
            replace H := Option.bind_eq_some_iff.mp H
            obtain ⟨t185, A160, H⟩ := H
            replace H : (spec_MarksOk.j1 k1 l0 x8_1 l0 (l0.length : Int) x8_1 (!t185) ((rd_T37 l0 x8_1).f0) ((rd_T37 l0 x8_1).f1)) = some r := H
            have A16 := Aside0.mk A160
            clear A160
            have H' := Aside0.mk H
            clear H
            obtain ⟨hcz17_0, hcz17_1, hfz17_0, hfz17_1⟩ := zs2 BK182
            go_wp2_with (first | (go_at_call 80; (with_reducible refine (spec_l1in.calls ((rd_T37 l0 x8_1).f1) 0 100000000 true _ A8.out).mono ?_); rintro e w' ⟨rfl, ⟨nd, rfl⟩⟩; (try first | exact ⟨rfl, _, World.drewN_drewN _ _ _⟩ | exact ⟨rfl, _, Eq.trans (World.drewN_drewN _ _ _) (congrArg (World.drewN _) (Nat.add_assoc _ _ _))⟩); have p184 : 0 ≤ ((ji11) : Int) := of_decide_eq_true (by first | (with_reducible assumption) | assumption); have q184 : (ji11) < (l0.length : Int) := of_decide_eq_true (by first | (with_reducible assumption) | assumption); obtain ⟨ad184, e184, hx184_0, hx184_1⟩ := at_T37 HR0.out (ji11) p184 q184; obtain rfl : ad181 = ad184 := (by injection e184); have hn184_0 : ad181.block ≠ gb182 := Nat.ne_of_lt (Nat.lt_of_lt_of_le (by have := World.block_lt_of_cell? _ _ hx184_0; first | rwa [add_block] at this | exact this) GW182.out); have hn184_1 : ad181.block ≠ gb182 := Nat.ne_of_lt (Nat.lt_of_lt_of_le (by have := World.block_lt_of_cell? _ _ hx184_0; first | rwa [add_block] at this | exact this) GW182.out); replace hx184_0 := (HB.out.cell (World.block_lt_of_cell? w _ hx184_0)).trans hx184_0; replace hx184_1 := (HB.out.cell (World.block_lt_of_cell? w _ hx184_1)).trans hx184_1; replace hx184_0 := (cell_far (p := ⟨gb182, 0, none⟩) (by first | (rw [add_block]; exact hn184_0) | (show (Addr.add _ _).block ≠ _; rw [add_block]; exact hn184_0) | exact hn184_0) (.int .i64 ((rd_T37 l0 x8_1).f0))).trans hx184_0; replace hx184_1 := (cell_far (p := ⟨gb182, 0, none⟩) (by first | (rw [add_block]; exact hn184_0) | (show (Addr.add _ _).block ≠ _; rw [add_block]; exact hn184_0) | exact hn184_0) (.int .i64 ((rd_T37 l0 x8_1).f0))).trans hx184_1; replace hx184_0 := (cell_far (p := ⟨gb182, 1, none⟩) (by first | (rw [add_block]; exact hn184_1) | (show (Addr.add _ _).block ≠ _; rw [add_block]; exact hn184_1) | exact hn184_1) (.int .i64 ((rd_T37 l0 x8_1).f1))).trans hx184_0; replace hx184_1 := (cell_far (p := ⟨gb182, 1, none⟩) (by first | (rw [add_block]; exact hn184_1) | (show (Addr.add _ _).block ≠ _; rw [add_block]; exact hn184_1) | exact hn184_1) (.int .i64 ((rd_T37 l0 x8_1).f1))).trans hx184_1; (try have hy184_0 := fun (n_ : Nat) => (show ((((w6.drewN n_).setCell ⟨gb182, 0, none⟩ (.int .i64 ((rd_T37 l0 x8_1).f0))).setCell ⟨gb182, 1, none⟩ (.int .i64 ((rd_T37 l0 x8_1).f1)))).cell? _ = some _ from hx184_0)); (try have hy184_1 := fun (n_ : Nat) => (show ((((w6.drewN n_).setCell ⟨gb182, 0, none⟩ (.int .i64 ((rd_T37 l0 x8_1).f0))).setCell ⟨gb182, 1, none⟩ (.int .i64 ((rd_T37 l0 x8_1).f1)))).cell? _ = some _ from hx184_1)); clear hn184_0; clear hn184_1; replace p184 := eq_true p184; replace q184 := eq_true q184) | (go_at_call 80; (with_reducible refine (spec_l1in.calls ((rd_T37 l0 x8_1).f0) 1 1000000000 t185 _ A16.out).mono ?_); rintro e w' ⟨rfl, ⟨nd, rfl⟩⟩; (try first | exact ⟨rfl, _, World.drewN_drewN _ _ _⟩ | exact ⟨rfl, _, Eq.trans (World.drewN_drewN _ _ _) (congrArg (World.drewN _) (Nat.add_assoc _ _ _))⟩)))
            repeat (go_quiet (first | (go_at_call 80; (with_reducible refine (spec_l1in.calls ((rd_T37 l0 x8_1).f1) 0 100000000 true _ A8.out).mono ?_); rintro e w' ⟨rfl, ⟨nd, rfl⟩⟩; (try first | exact ⟨rfl, _, World.drewN_drewN _ _ _⟩ | exact ⟨rfl, _, Eq.trans (World.drewN_drewN _ _ _) (congrArg (World.drewN _) (Nat.add_assoc _ _ _))⟩); have p184 : 0 ≤ ((ji11) : Int) := of_decide_eq_true (by first | (with_reducible assumption) | assumption); have q184 : (ji11) < (l0.length : Int) := of_decide_eq_true (by first | (with_reducible assumption) | assumption); obtain ⟨ad184, e184, hx184_0, hx184_1⟩ := at_T37 HR0.out (ji11) p184 q184; obtain rfl : ad181 = ad184 := (by injection e184); have hn184_0 : ad181.block ≠ gb182 := Nat.ne_of_lt (Nat.lt_of_lt_of_le (by have := World.block_lt_of_cell? _ _ hx184_0; first | rwa [add_block] at this | exact this) GW182.out); have hn184_1 : ad181.block ≠ gb182 := Nat.ne_of_lt (Nat.lt_of_lt_of_le (by have := World.block_lt_of_cell? _ _ hx184_0; first | rwa [add_block] at this | exact this) GW182.out); replace hx184_0 := (HB.out.cell (World.block_lt_of_cell? w _ hx184_0)).trans hx184_0; replace hx184_1 := (HB.out.cell (World.block_lt_of_cell? w _ hx184_1)).trans hx184_1; replace hx184_0 := (cell_far (p := ⟨gb182, 0, none⟩) (by first | (rw [add_block]; exact hn184_0) | (show (Addr.add _ _).block ≠ _; rw [add_block]; exact hn184_0) | exact hn184_0) (.int .i64 ((rd_T37 l0 x8_1).f0))).trans hx184_0; replace hx184_1 := (cell_far (p := ⟨gb182, 0, none⟩) (by first | (rw [add_block]; exact hn184_0) | (show (Addr.add _ _).block ≠ _; rw [add_block]; exact hn184_0) | exact hn184_0) (.int .i64 ((rd_T37 l0 x8_1).f0))).trans hx184_1; replace hx184_0 := (cell_far (p := ⟨gb182, 1, none⟩) (by first | (rw [add_block]; exact hn184_1) | (show (Addr.add _ _).block ≠ _; rw [add_block]; exact hn184_1) | exact hn184_1) (.int .i64 ((rd_T37 l0 x8_1).f1))).trans hx184_0; replace hx184_1 := (cell_far (p := ⟨gb182, 1, none⟩) (by first | (rw [add_block]; exact hn184_1) | (show (Addr.add _ _).block ≠ _; rw [add_block]; exact hn184_1) | exact hn184_1) (.int .i64 ((rd_T37 l0 x8_1).f1))).trans hx184_1; (try have hy184_0 := fun (n_ : Nat) => (show ((((w6.drewN n_).setCell ⟨gb182, 0, none⟩ (.int .i64 ((rd_T37 l0 x8_1).f0))).setCell ⟨gb182, 1, none⟩ (.int .i64 ((rd_T37 l0 x8_1).f1)))).cell? _ = some _ from hx184_0)); (try have hy184_1 := fun (n_ : Nat) => (show ((((w6.drewN n_).setCell ⟨gb182, 0, none⟩ (.int .i64 ((rd_T37 l0 x8_1).f0))).setCell ⟨gb182, 1, none⟩ (.int .i64 ((rd_T37 l0 x8_1).f1)))).cell? _ = some _ from hx184_1)); clear hn184_0; clear hn184_1; replace p184 := eq_true p184; replace q184 := eq_true q184) | (go_at_call 80; (with_reducible refine (spec_l1in.calls ((rd_T37 l0 x8_1).f0) 1 1000000000 t185 _ A16.out).mono ?_); rintro e w' ⟨rfl, ⟨nd, rfl⟩⟩; (try first | exact ⟨rfl, _, World.drewN_drewN _ _ _⟩ | exact ⟨rfl, _, Eq.trans (World.drewN_drewN _ _ _) (congrArg (World.drewN _) (Nat.add_assoc _ _ _))⟩))); try go_wp2_with (first | (go_at_call 80; (with_reducible refine (spec_l1in.calls ((rd_T37 l0 x8_1).f1) 0 100000000 true _ A8.out).mono ?_); rintro e w' ⟨rfl, ⟨nd, rfl⟩⟩; (try first | exact ⟨rfl, _, World.drewN_drewN _ _ _⟩ | exact ⟨rfl, _, Eq.trans (World.drewN_drewN _ _ _) (congrArg (World.drewN _) (Nat.add_assoc _ _ _))⟩); have p184 : 0 ≤ ((ji11) : Int) := of_decide_eq_true (by first | (with_reducible assumption) | assumption); have q184 : (ji11) < (l0.length : Int) := of_decide_eq_true (by first | (with_reducible assumption) | assumption); obtain ⟨ad184, e184, hx184_0, hx184_1⟩ := at_T37 HR0.out (ji11) p184 q184; obtain rfl : ad181 = ad184 := (by injection e184); have hn184_0 : ad181.block ≠ gb182 := Nat.ne_of_lt (Nat.lt_of_lt_of_le (by have := World.block_lt_of_cell? _ _ hx184_0; first | rwa [add_block] at this | exact this) GW182.out); have hn184_1 : ad181.block ≠ gb182 := Nat.ne_of_lt (Nat.lt_of_lt_of_le (by have := World.block_lt_of_cell? _ _ hx184_0; first | rwa [add_block] at this | exact this) GW182.out); replace hx184_0 := (HB.out.cell (World.block_lt_of_cell? w _ hx184_0)).trans hx184_0; replace hx184_1 := (HB.out.cell (World.block_lt_of_cell? w _ hx184_1)).trans hx184_1; replace hx184_0 := (cell_far (p := ⟨gb182, 0, none⟩) (by first | (rw [add_block]; exact hn184_0) | (show (Addr.add _ _).block ≠ _; rw [add_block]; exact hn184_0) | exact hn184_0) (.int .i64 ((rd_T37 l0 x8_1).f0))).trans hx184_0; replace hx184_1 := (cell_far (p := ⟨gb182, 0, none⟩) (by first | (rw [add_block]; exact hn184_0) | (show (Addr.add _ _).block ≠ _; rw [add_block]; exact hn184_0) | exact hn184_0) (.int .i64 ((rd_T37 l0 x8_1).f0))).trans hx184_1; replace hx184_0 := (cell_far (p := ⟨gb182, 1, none⟩) (by first | (rw [add_block]; exact hn184_1) | (show (Addr.add _ _).block ≠ _; rw [add_block]; exact hn184_1) | exact hn184_1) (.int .i64 ((rd_T37 l0 x8_1).f1))).trans hx184_0; replace hx184_1 := (cell_far (p := ⟨gb182, 1, none⟩) (by first | (rw [add_block]; exact hn184_1) | (show (Addr.add _ _).block ≠ _; rw [add_block]; exact hn184_1) | exact hn184_1) (.int .i64 ((rd_T37 l0 x8_1).f1))).trans hx184_1; (try have hy184_0 := fun (n_ : Nat) => (show ((((w6.drewN n_).setCell ⟨gb182, 0, none⟩ (.int .i64 ((rd_T37 l0 x8_1).f0))).setCell ⟨gb182, 1, none⟩ (.int .i64 ((rd_T37 l0 x8_1).f1)))).cell? _ = some _ from hx184_0)); (try have hy184_1 := fun (n_ : Nat) => (show ((((w6.drewN n_).setCell ⟨gb182, 0, none⟩ (.int .i64 ((rd_T37 l0 x8_1).f0))).setCell ⟨gb182, 1, none⟩ (.int .i64 ((rd_T37 l0 x8_1).f1)))).cell? _ = some _ from hx184_1)); clear hn184_0; clear hn184_1; replace p184 := eq_true p184; replace q184 := eq_true q184) | (go_at_call 80; (with_reducible refine (spec_l1in.calls ((rd_T37 l0 x8_1).f0) 1 1000000000 t185 _ A16.out).mono ?_); rintro e w' ⟨rfl, ⟨nd, rfl⟩⟩; (try first | exact ⟨rfl, _, World.drewN_drewN _ _ _⟩ | exact ⟨rfl, _, Eq.trans (World.drewN_drewN _ _ _) (congrArg (World.drewN _) (Nat.add_assoc _ _ _))⟩))))
            go_meet
            case rel => exact ⟨_, (!t185), ze, H', ⟨by have := HK1.out; first | omega | exact Nat.le_refl _⟩, ⟨by (with_reducible repeat (first | refine blk_drewN ?_ _ | refine blk_drew ?_ | refine blk_alloc ?_ _)); refine blk_put (cs := #[.int .i64 ((rd_T37 l0 x8_1).f0), .int .i64 0]) ?_ 1 _ rfl; (with_reducible repeat (first | refine blk_drewN ?_ _ | refine blk_drew ?_ | refine blk_alloc ?_ _)); refine blk_put (cs := #[.int .i64 0, .int .i64 0]) ?_ 0 _ rfl; (with_reducible repeat (first | refine blk_drewN ?_ _ | refine blk_drew ?_ | refine blk_alloc ?_ _)); exact BK182.out⟩, ⟨by repeat (first | (with_reducible first | exact HB.out | apply below_alloc | apply pw_below_drewN | apply below_drew1 | refine below_set ?_ GE182.out) | exact HB.out)⟩⟩
          ·rw [if_neg c13] at H
           exact absurd H (by simp)
         ·rw [if_neg c12] at H
          exact absurd H (by simp)
        ·rw [if_neg c10] at H
         have c10b0 : decide (0 < x8_1) = false := decide_eq_false c10
         clear c10
         (first | rw [c10b0] | (simp only [i64_w, i32_w]; rw [c10b0]) | skip)
         replace H := Option.bind_eq_some_iff.mp H
         obtain ⟨t186, A180, H⟩ := H
         replace H : (spec_MarksOk.j1 k1 l0 x8_1 l0 (l0.length : Int) x8_1 (!t186) ((rd_T37 l0 x8_1).f0) ((rd_T37 l0 x8_1).f1)) = some r := H
         have A18 := Aside0.mk A180
         clear A180
         have H' := Aside0.mk H
         clear H
         obtain ⟨hcz19_0, hcz19_1, hfz19_0, hfz19_1⟩ := zs2 BK182
         go_wp2_with (first | (go_at_call 80; (with_reducible refine (spec_l1in.calls ((rd_T37 l0 x8_1).f1) 0 100000000 true _ A8.out).mono ?_); rintro e w' ⟨rfl, ⟨nd, rfl⟩⟩; (try first | exact ⟨rfl, _, World.drewN_drewN _ _ _⟩ | exact ⟨rfl, _, Eq.trans (World.drewN_drewN _ _ _) (congrArg (World.drewN _) (Nat.add_assoc _ _ _))⟩)) | (go_at_call 80; (with_reducible refine (spec_l1in.calls ((rd_T37 l0 x8_1).f0) 1 1000000000 t186 _ A18.out).mono ?_); rintro e w' ⟨rfl, ⟨nd, rfl⟩⟩; (try first | exact ⟨rfl, _, World.drewN_drewN _ _ _⟩ | exact ⟨rfl, _, Eq.trans (World.drewN_drewN _ _ _) (congrArg (World.drewN _) (Nat.add_assoc _ _ _))⟩)))
         repeat (go_quiet (first | (go_at_call 80; (with_reducible refine (spec_l1in.calls ((rd_T37 l0 x8_1).f1) 0 100000000 true _ A8.out).mono ?_); rintro e w' ⟨rfl, ⟨nd, rfl⟩⟩; (try first | exact ⟨rfl, _, World.drewN_drewN _ _ _⟩ | exact ⟨rfl, _, Eq.trans (World.drewN_drewN _ _ _) (congrArg (World.drewN _) (Nat.add_assoc _ _ _))⟩)) | (go_at_call 80; (with_reducible refine (spec_l1in.calls ((rd_T37 l0 x8_1).f0) 1 1000000000 t186 _ A18.out).mono ?_); rintro e w' ⟨rfl, ⟨nd, rfl⟩⟩; (try first | exact ⟨rfl, _, World.drewN_drewN _ _ _⟩ | exact ⟨rfl, _, Eq.trans (World.drewN_drewN _ _ _) (congrArg (World.drewN _) (Nat.add_assoc _ _ _))⟩))); try go_wp2_with (first | (go_at_call 80; (with_reducible refine (spec_l1in.calls ((rd_T37 l0 x8_1).f1) 0 100000000 true _ A8.out).mono ?_); rintro e w' ⟨rfl, ⟨nd, rfl⟩⟩; (try first | exact ⟨rfl, _, World.drewN_drewN _ _ _⟩ | exact ⟨rfl, _, Eq.trans (World.drewN_drewN _ _ _) (congrArg (World.drewN _) (Nat.add_assoc _ _ _))⟩)) | (go_at_call 80; (with_reducible refine (spec_l1in.calls ((rd_T37 l0 x8_1).f0) 1 1000000000 t186 _ A18.out).mono ?_); rintro e w' ⟨rfl, ⟨nd, rfl⟩⟩; (try first | exact ⟨rfl, _, World.drewN_drewN _ _ _⟩ | exact ⟨rfl, _, Eq.trans (World.drewN_drewN _ _ _) (congrArg (World.drewN _) (Nat.add_assoc _ _ _))⟩))))
         go_meet
         case rel => exact ⟨_, (!t186), ze, H', ⟨by have := HK1.out; first | omega | exact Nat.le_refl _⟩, ⟨by (with_reducible repeat (first | refine blk_drewN ?_ _ | refine blk_drew ?_ | refine blk_alloc ?_ _)); refine blk_put (cs := #[.int .i64 ((rd_T37 l0 x8_1).f0), .int .i64 0]) ?_ 1 _ rfl; (with_reducible repeat (first | refine blk_drewN ?_ _ | refine blk_drew ?_ | refine blk_alloc ?_ _)); refine blk_put (cs := #[.int .i64 0, .int .i64 0]) ?_ 0 _ rfl; (with_reducible repeat (first | refine blk_drewN ?_ _ | refine blk_drew ?_ | refine blk_alloc ?_ _)); exact BK182.out⟩, ⟨by repeat (first | (with_reducible first | exact HB.out | apply below_alloc | apply pw_below_drewN | apply below_drew1 | refine below_set ?_ GE182.out) | exact HB.out)⟩⟩
       ·replace c9 := Bool.eq_false_iff.mpr c9
        subst c9
        have H1 : (spec_MarksOk.j1 k1 l0 x8_1 l0 (l0.length : Int) x8_1 true ((rd_T37 l0 x8_1).f0) ((rd_T37 l0 x8_1).f1)) = some r := by rw [if_neg (show ¬ (false = true) by decide)] at H; exact H
        clear H
        have H := H1
        clear H1
        have H' := Aside0.mk H
        clear H
        obtain ⟨hcz20_0, hcz20_1, hfz20_0, hfz20_1⟩ := zs2 BK182
        go_wp2_with (first | (go_at_call 80; (with_reducible refine (spec_l1in.calls ((rd_T37 l0 x8_1).f1) 0 100000000 false _ A8.out).mono ?_); rintro e w' ⟨rfl, ⟨nd, rfl⟩⟩; (try first | exact ⟨rfl, _, World.drewN_drewN _ _ _⟩ | exact ⟨rfl, _, Eq.trans (World.drewN_drewN _ _ _) (congrArg (World.drewN _) (Nat.add_assoc _ _ _))⟩)))
        repeat (go_quiet (first | (go_at_call 80; (with_reducible refine (spec_l1in.calls ((rd_T37 l0 x8_1).f1) 0 100000000 false _ A8.out).mono ?_); rintro e w' ⟨rfl, ⟨nd, rfl⟩⟩; (try first | exact ⟨rfl, _, World.drewN_drewN _ _ _⟩ | exact ⟨rfl, _, Eq.trans (World.drewN_drewN _ _ _) (congrArg (World.drewN _) (Nat.add_assoc _ _ _))⟩))); try go_wp2_with (first | (go_at_call 80; (with_reducible refine (spec_l1in.calls ((rd_T37 l0 x8_1).f1) 0 100000000 false _ A8.out).mono ?_); rintro e w' ⟨rfl, ⟨nd, rfl⟩⟩; (try first | exact ⟨rfl, _, World.drewN_drewN _ _ _⟩ | exact ⟨rfl, _, Eq.trans (World.drewN_drewN _ _ _) (congrArg (World.drewN _) (Nat.add_assoc _ _ _))⟩))))
        go_meet
        case rel => exact ⟨_, (true), ze, H', ⟨by have := HK1.out; first | omega | exact Nat.le_refl _⟩, ⟨by (with_reducible repeat (first | refine blk_drewN ?_ _ | refine blk_drew ?_ | refine blk_alloc ?_ _)); refine blk_put (cs := #[.int .i64 ((rd_T37 l0 x8_1).f0), .int .i64 0]) ?_ 1 _ rfl; (with_reducible repeat (first | refine blk_drewN ?_ _ | refine blk_drew ?_ | refine blk_alloc ?_ _)); refine blk_put (cs := #[.int .i64 0, .int .i64 0]) ?_ 0 _ rfl; (with_reducible repeat (first | refine blk_drewN ?_ _ | refine blk_drew ?_ | refine blk_alloc ?_ _)); exact BK182.out⟩, ⟨by repeat (first | (with_reducible first | exact HB.out | apply below_alloc | apply pw_below_drewN | apply below_drew1 | refine below_set ?_ GE182.out) | exact HB.out)⟩⟩
      case rest =>
       clear HC5
       (try clear c1); (try clear p1); (try clear q1); (try clear hx1); (try clear c2); (try clear c2b0); (try clear p2); (try clear c3); (try clear c3b0); (try clear c4); (try clear c4b0); (try clear p6); (try clear c9); (try clear c10); (try clear c10b0); (try clear c12); (try clear c12b0); (try clear c13); (try clear c13b0); (try clear c14); (try clear c14b0); (try clear p18); (try clear q18); (try clear hx18); (try clear hcz15_0); (try clear hcz15_1); (try clear hcz17_0); (try clear hcz17_1); (try clear hcz19_0); (try clear hcz19_1); (try clear hcz20_0); (try clear hcz20_1); (try clear hcz7_0); (try clear hcz7_1); (try clear hfz15_0); (try clear hfz15_1); (try clear hfz17_0); (try clear hfz17_1); (try clear hfz19_0); (try clear hfz19_1); (try clear hfz20_0); (try clear hfz20_1); (try clear hfz7_0); (try clear hfz7_1); (try clear hx181_0); (try clear hx181_1); (try clear hx184_0); (try clear hx184_1); (try clear p181); (try clear p184); (try clear q181); (try clear q184)
       obtain ⟨kq, x37_4, rfl, HA, HJ4, BK182, HB⟩ := hcut
       cases kq with
       | zero => exact absurd HA.out (by simp [spec_MarksOk.j1])
       | succ kj4 =>
        have H := HA.out
        clear HA
        simp only [spec_MarksOk.j1] at H
        by_cases c21 : x37_4 = true
        ·subst c21
         have H1 : (some false) = some r := by rw [if_pos rfl] at H; exact H
         clear H
         have H := H1
         clear H1
         obtain rfl := Option.some.inj H
         go_wp2
         repeat (go_quiet (fail); try go_wp2)
         go_ret
         exact ⟨by first | rfl | (simp [errW_none, errW_some] <;> rfl) | (simp [*, errW_none, errW_some] <;> rfl), by repeat (first | (with_reducible first | exact HB.out | apply below_alloc | apply pw_below_drewN | apply below_drew1 | refine below_set ?_ GE182.out) | exact HB.out)⟩
        ·replace c21 := Bool.eq_false_iff.mpr c21
         subst c21
         have H1 : (spec_MarksOk.l1 kj4 l0 x8_1 0 l0 (l0.length : Int) x8_1 ((rd_T37 l0 x8_1).f0) ((rd_T37 l0 x8_1).f1)) = some r := by rw [if_neg (show ¬ (false = true) by decide)] at H; exact H
         clear H
         have H := H1
         clear H1
         have H' := Aside0.mk H
         clear H
         go_wp2
         repeat (go_quiet (fail); try go_wp2)
         go_loopg [5] kj4 (fun kq v5 w' => ∃ (x5_3 : Int), v5 = .int .i64 x5_3 ∧ Aside0 (spec_MarksOk.l1 kq l0 x8_1 x5_3 l0 (l0.length : Int) x8_1 ((rd_T37 l0 x8_1).f0) ((rd_T37 l0 x8_1).f1) = some r) ∧ Aside0 (kq ≤ kj4) ∧ Aside0 (w'.heap[gb182]? = some (.cells #[.int .i64 ((rd_T37 l0 x8_1).f0), .int .i64 ((rd_T37 l0 x8_1).f1)] 37 (0, 0))) ∧ Aside0 (Below w.heap.size w w'))
         case atStart => exact ⟨(0), ze, H', ⟨Nat.le_refl _⟩, ⟨zy BK182⟩, ⟨by repeat (first | (with_reducible first | exact HB.out | apply below_alloc | apply pw_below_drewN | apply below_drew1 | refine below_set ?_ GE182.out) | exact HB.out)⟩⟩
         case round =>
          clear H'
          (try clear c1); (try clear p1); (try clear q1); (try clear hx1); (try clear c2); (try clear c2b0); (try clear p2); (try clear c3); (try clear c3b0); (try clear c4); (try clear c4b0); (try clear p6); (try clear c9); (try clear c10); (try clear c10b0); (try clear c12); (try clear c12b0); (try clear c13); (try clear c13b0); (try clear c14); (try clear c14b0); (try clear p18); (try clear q18); (try clear hx18); (try clear c21); (try clear hcz15_0); (try clear hcz15_1); (try clear hcz17_0); (try clear hcz17_1); (try clear hcz19_0); (try clear hcz19_1); (try clear hcz20_0); (try clear hcz20_1); (try clear hcz7_0); (try clear hcz7_1); (try clear hfz15_0); (try clear hfz15_1); (try clear hfz17_0); (try clear hfz17_1); (try clear hfz19_0); (try clear hfz19_1); (try clear hfz20_0); (try clear hfz20_1); (try clear hfz7_0); (try clear hfz7_1); (try clear hx181_0); (try clear hx181_1); (try clear hx184_0); (try clear hx184_1); (try clear p1); (try clear p18); (try clear p181); (try clear p184); (try clear p2); (try clear p6); (try clear q1); (try clear q18); (try clear q181); (try clear q184)
          obtain ⟨x5_3, rfl, HA, HK3, BK182, HB⟩ := hrel
          cases gk with
          | zero => exact absurd HA.out (by simp [spec_MarksOk.l1])
          | succ k3 =>
           have H := HA.out
           clear HA
           simp only [spec_MarksOk.l1] at H
           by_cases c22 : x5_3 < x8_1
           ·rw [if_pos c22] at H
            have c22b0 : decide (x5_3 < x8_1) = true := decide_eq_true c22
            clear c22
            by_cases c23 : 0 ≤ x5_3
            ·rw [if_pos c23] at H
             have c23b0 : decide (0 ≤ x5_3) = true := decide_eq_true c23
             clear c23
             by_cases c24 : x5_3 < (l0.length : Int)
             ·rw [if_pos c24] at H
              have c24b0 : decide (x5_3 < (l0.length : Int)) = true := decide_eq_true c24
              clear c24
              by_cases c25 : ((rd_T37 l0 x5_3).f0) = ((rd_T37 l0 x8_1).f0)
              ·rw [if_pos c25] at H
               have c25b0 : (((rd_T37 l0 x5_3).f0) == ((rd_T37 l0 x8_1).f0)) = true := beq_iff_eq.mpr c25
               have c25b1 : (((rd_T37 l0 x5_3).f0) != ((rd_T37 l0 x8_1).f0)) = false := bne_eq_false_iff_eq.mpr c25
               clear c25
               obtain rfl := Option.some.inj H
               have p187 : 0 ≤ (x5_3 : Int) := of_decide_eq_true (by first | (with_reducible assumption) | assumption)
               have q187 : x5_3 < (l0.length : Int) := of_decide_eq_true (by first | (with_reducible assumption) | assumption)
               obtain ⟨ad187, e187, hx187_0, hx187_1⟩ := at_T37 HR0.out x5_3 p187 q187
               obtain rfl : ad181 = ad187 := (by injection e187)
               replace hx187_0 := (HB.out.cell (World.block_lt_of_cell? w _ hx187_0)).trans hx187_0
               replace hx187_1 := (HB.out.cell (World.block_lt_of_cell? w _ hx187_1)).trans hx187_1
               replace p187 := eq_true p187
               replace q187 := eq_true q187
               obtain ⟨hcz26_0, hcz26_1, hfz26_0, hfz26_1⟩ := zs2 BK182
               go_wp2
               repeat (go_quiet (fail); try go_wp2)
               go_ret
               exact ⟨by first | rfl | (simp [errW_none, errW_some] <;> rfl) | (simp [*, errW_none, errW_some] <;> rfl), by repeat (first | (with_reducible first | exact HB.out | apply below_alloc | apply pw_below_drewN | apply below_drew1 | refine below_set ?_ GE182.out) | exact HB.out)⟩
              ·rw [if_neg c25] at H
               have c25b0 : (((rd_T37 l0 x5_3).f0) == ((rd_T37 l0 x8_1).f0)) = false := beq_eq_false_iff_ne.mpr c25
               have c25b1 : (((rd_T37 l0 x5_3).f0) != ((rd_T37 l0 x8_1).f0)) = true := bne_iff_ne.mpr c25
               have H' := Aside0.mk H
               clear H
               have p187 : 0 ≤ (x5_3 : Int) := of_decide_eq_true (by first | (with_reducible assumption) | assumption)
               have q187 : x5_3 < (l0.length : Int) := of_decide_eq_true (by first | (with_reducible assumption) | assumption)
               obtain ⟨ad187, e187, hx187_0, hx187_1⟩ := at_T37 HR0.out x5_3 p187 q187
               obtain rfl : ad181 = ad187 := (by injection e187)
               replace hx187_0 := (HB.out.cell (World.block_lt_of_cell? w _ hx187_0)).trans hx187_0
               replace hx187_1 := (HB.out.cell (World.block_lt_of_cell? w _ hx187_1)).trans hx187_1
               replace p187 := eq_true p187
               replace q187 := eq_true q187
               obtain ⟨hcz27_0, hcz27_1, hfz27_0, hfz27_1⟩ := zs2 BK182
               go_wp2
               repeat (go_quiet (fail); try go_wp2)
               go_roundg k3
               case measure => have := HK1.out; have := HJ4.out; have := HK3.out; omega
               case rel => exact ⟨(wrap64 (x5_3 + 1)), ze, H', ⟨by have := HK1.out; have := HJ4.out; have := HK3.out; omega⟩, ⟨zy BK182⟩, ⟨by repeat (first | (with_reducible first | exact HB.out | apply below_alloc | apply pw_below_drewN | apply below_drew1 | refine below_set ?_ GE182.out) | exact HB.out)⟩⟩
             ·rw [if_neg c24] at H
              exact absurd H (by simp)
            ·rw [if_neg c23] at H
             exact absurd H (by simp)
           ·rw [if_neg c22] at H
            have c22b0 : decide (x5_3 < x8_1) = false := decide_eq_false c22
            clear c22
            have H' := Aside0.mk H
            clear H
            go_wp2
            repeat (go_quiet (fail); try go_wp2)
            go_roundg k3
            case measure => have := HK1.out; have := HJ4.out; have := HK3.out; omega
            case rel => exact ⟨(wrap64 (x8_1 + 1)), ze, H', ⟨by have := HK1.out; have := HJ4.out; have := HK3.out; omega⟩, ⟨by repeat (first | (with_reducible first | exact HB.out | apply below_alloc | apply pw_below_drewN | apply below_drew1 | refine below_set ?_ GE182.out) | exact HB.out)⟩⟩
     ·rw [if_neg c4] at H
      exact absurd H (by simp)
    ·rw [if_neg c3] at H
     exact absurd H (by simp)
   ·rw [if_neg c2] at H
    have c2b0 : decide (x8_1 < (l0.length : Int)) = false := decide_eq_false c2
    clear c2
    obtain rfl := Option.some.inj H
    go_wp2
    repeat (go_quiet (fail); try go_wp2)
    go_ret
    exact ⟨by first | rfl | (simp [errW_none, errW_some] <;> rfl) | (simp [*, errW_none, errW_some] <;> rfl), by repeat (first | (with_reducible first | exact HB.out | apply below_alloc | apply pw_below_drewN | apply below_drew1) | exact HB.out)⟩

/-! ### spec_RulesOk: function 67 -/
def spec_RulesOk.f (a0_0 : Int) (a0_1 : Int) (a0_2 : Int) (a0_3 : Int) (a0_4 : Int) : Option (Bool) := (spec_l1in.f a0_0 0 500).bind fun t189 => (if t189 = true then ((spec_l1in.f a0_1 0 1000).bind fun t190 => (if t190 = true then ((spec_l1in.f a0_2 0 10000).bind fun t191 => (if t191 = true then ((spec_l1in.f a0_3 1 1000000).bind fun t192 => (if t192 = true then ((spec_l1in.f a0_4 0 10000).bind fun t193 => (some t193)) else (some false))) else (some false))) else (some false))) else (some false))
set_option maxHeartbeats 8000000 in
set_option maxRecDepth 100000 in
theorem spec_RulesOk.calls (a0_0 : Int) (a0_1 : Int) (a0_2 : Int) (a0_3 : Int) (a0_4 : Int) (r : Bool) (w : World) (h : spec_RulesOk.f a0_0 a0_1 a0_2 a0_3 a0_4 = some r) :
  Calls Try.prog 67 #[.agg #[.int .i64 a0_0, .int .i64 a0_1, .int .i64 a0_2, .int .i64 a0_3, .int .i64 a0_4]] w fun e w' => e = .returned (.bool r) ∧ Below w.heap.size w w' := by
 have hu24 := Try.underlying24
 have HB := Aside0.mk (Below.refl w.heap.size w)
 have H : ((spec_l1in.f a0_0 0 500).bind fun t189 => (if t189 = true then ((spec_l1in.f a0_1 0 1000).bind fun t190 => (if t190 = true then ((spec_l1in.f a0_2 0 10000).bind fun t191 => (if t191 = true then ((spec_l1in.f a0_3 1 1000000).bind fun t192 => (if t192 = true then ((spec_l1in.f a0_4 0 10000).bind fun t193 => (some t193)) else (some false))) else (some false))) else (some false))) else (some false))) = some r := h
 clear h
 replace H := Option.bind_eq_some_iff.mp H
 obtain ⟨t189, A20, H⟩ := H
 replace H : (if t189 = true then ((spec_l1in.f a0_1 0 1000).bind fun t190 => (if t190 = true then ((spec_l1in.f a0_2 0 10000).bind fun t191 => (if t191 = true then ((spec_l1in.f a0_3 1 1000000).bind fun t192 => (if t192 = true then ((spec_l1in.f a0_4 0 10000).bind fun t193 => (some t193)) else (some false))) else (some false))) else (some false))) else (some false)) = some r := H
 have A2 := Aside0.mk A20
 clear A20
 by_cases c3 : t189 = true
 ·subst c3
  have H1 : ((spec_l1in.f a0_1 0 1000).bind fun t190 => (if t190 = true then ((spec_l1in.f a0_2 0 10000).bind fun t191 => (if t191 = true then ((spec_l1in.f a0_3 1 1000000).bind fun t192 => (if t192 = true then ((spec_l1in.f a0_4 0 10000).bind fun t193 => (some t193)) else (some false))) else (some false))) else (some false))) = some r := by rw [if_pos rfl] at H; exact H
  clear H
  have H := H1
  clear H1
  replace H := Option.bind_eq_some_iff.mp H
  obtain ⟨t190, A40, H⟩ := H
  replace H : (if t190 = true then ((spec_l1in.f a0_2 0 10000).bind fun t191 => (if t191 = true then ((spec_l1in.f a0_3 1 1000000).bind fun t192 => (if t192 = true then ((spec_l1in.f a0_4 0 10000).bind fun t193 => (some t193)) else (some false))) else (some false))) else (some false)) = some r := H
  have A4 := Aside0.mk A40
  clear A40
  by_cases c5 : t190 = true
  ·subst c5
   have H1 : ((spec_l1in.f a0_2 0 10000).bind fun t191 => (if t191 = true then ((spec_l1in.f a0_3 1 1000000).bind fun t192 => (if t192 = true then ((spec_l1in.f a0_4 0 10000).bind fun t193 => (some t193)) else (some false))) else (some false))) = some r := by rw [if_pos rfl] at H; exact H
   clear H
   have H := H1
   clear H1
   replace H := Option.bind_eq_some_iff.mp H
   obtain ⟨t191, A60, H⟩ := H
   replace H : (if t191 = true then ((spec_l1in.f a0_3 1 1000000).bind fun t192 => (if t192 = true then ((spec_l1in.f a0_4 0 10000).bind fun t193 => (some t193)) else (some false))) else (some false)) = some r := H
   have A6 := Aside0.mk A60
   clear A60
   by_cases c7 : t191 = true
   ·subst c7
    have H1 : ((spec_l1in.f a0_3 1 1000000).bind fun t192 => (if t192 = true then ((spec_l1in.f a0_4 0 10000).bind fun t193 => (some t193)) else (some false))) = some r := by rw [if_pos rfl] at H; exact H
    clear H
    have H := H1
    clear H1
    replace H := Option.bind_eq_some_iff.mp H
    obtain ⟨t192, A80, H⟩ := H
    replace H : (if t192 = true then ((spec_l1in.f a0_4 0 10000).bind fun t193 => (some t193)) else (some false)) = some r := H
    have A8 := Aside0.mk A80
    clear A80
    by_cases c9 : t192 = true
    ·subst c9
     have H1 : ((spec_l1in.f a0_4 0 10000).bind fun t193 => (some t193)) = some r := by rw [if_pos rfl] at H; exact H
     clear H
     have H := H1
     clear H1
     replace H := Option.bind_eq_some_iff.mp H
     obtain ⟨t193, A100, H⟩ := H
     replace H : (some t193) = some r := H
     have A10 := Aside0.mk A100
     clear A100
     obtain rfl := Option.some.inj H
     go_enter Try.func67, Try.ntmps67
     go_wp2_with (first | ((with_reducible refine gate_dst (N := 1) rfl ?_); refine zx 1 #[.int .i64 a0_0, .int .i64 a0_1, .int .i64 a0_2, .int .i64 a0_3, .int .i64 a0_4] 24 ?_; intro gb188 hg w11 hbox hb; have BK188 := Aside0.mk (hbox); have GW188 := zge HB hg; have GE188 := GW188; replace HB := zB HB hb; clear hb hbox hg; obtain ⟨hcz12_0, hcz12_1, hcz12_2, hcz12_3, hcz12_4, hfz12_0, hfz12_1, hfz12_2, hfz12_3, hfz12_4⟩ := zs5 BK188) | ((with_reducible refine gate_callee (f := 80) rfl ?_); refine zL (some 5) Try.func80 #[.int .i64 a0_0, .int .i64 0, .int .i64 500] ?_; (with_reducible refine (spec_l1in.calls a0_0 0 500 true _ A2.out).mono ?_); rintro e w' ⟨rfl, ⟨nd, rfl⟩⟩; refine ⟨_, rfl, ?_⟩) | (go_at_call 80; (with_reducible refine (spec_l1in.calls a0_1 0 1000 true _ A4.out).mono ?_); rintro e w' ⟨rfl, ⟨nd, rfl⟩⟩) | (go_at_call 80; (with_reducible refine (spec_l1in.calls a0_2 0 10000 true _ A6.out).mono ?_); rintro e w' ⟨rfl, ⟨nd, rfl⟩⟩) | (go_at_call 80; (with_reducible refine (spec_l1in.calls a0_3 1 1000000 true _ A8.out).mono ?_); rintro e w' ⟨rfl, ⟨nd, rfl⟩⟩) | (go_at_call 80; (with_reducible refine (spec_l1in.calls a0_4 0 10000 t193 _ A10.out).mono ?_); rintro e w' ⟨rfl, ⟨nd, rfl⟩⟩))
     go_ret
     exact ⟨by first | rfl | (simp [errW_none, errW_some] <;> rfl) | (simp [*, errW_none, errW_some] <;> rfl), by repeat (first | (with_reducible first | exact HB.out | apply below_alloc | apply pw_below_drewN | apply below_drew1 | refine below_set ?_ GE188.out) | exact HB.out)⟩
    ·replace c9 := Bool.eq_false_iff.mpr c9
     subst c9
     have H1 : (some false) = some r := by rw [if_neg (show ¬ (false = true) by decide)] at H; exact H
     clear H
     have H := H1
     clear H1
     obtain rfl := Option.some.inj H
     go_enter Try.func67, Try.ntmps67
     go_wp2_with (first | ((with_reducible refine gate_dst (N := 1) rfl ?_); refine zx 1 #[.int .i64 a0_0, .int .i64 a0_1, .int .i64 a0_2, .int .i64 a0_3, .int .i64 a0_4] 24 ?_; intro gb188 hg w13 hbox hb; have BK188 := Aside0.mk (hbox); have GW188 := zge HB hg; have GE188 := GW188; replace HB := zB HB hb; clear hb hbox hg; obtain ⟨hcz14_0, hcz14_1, hcz14_2, hcz14_3, hcz14_4, hfz14_0, hfz14_1, hfz14_2, hfz14_3, hfz14_4⟩ := zs5 BK188) | ((with_reducible refine gate_callee (f := 80) rfl ?_); refine zL (some 5) Try.func80 #[.int .i64 a0_0, .int .i64 0, .int .i64 500] ?_; (with_reducible refine (spec_l1in.calls a0_0 0 500 true _ A2.out).mono ?_); rintro e w' ⟨rfl, ⟨nd, rfl⟩⟩; refine ⟨_, rfl, ?_⟩) | (go_at_call 80; (with_reducible refine (spec_l1in.calls a0_1 0 1000 true _ A4.out).mono ?_); rintro e w' ⟨rfl, ⟨nd, rfl⟩⟩) | (go_at_call 80; (with_reducible refine (spec_l1in.calls a0_2 0 10000 true _ A6.out).mono ?_); rintro e w' ⟨rfl, ⟨nd, rfl⟩⟩) | (go_at_call 80; (with_reducible refine (spec_l1in.calls a0_3 1 1000000 false _ A8.out).mono ?_); rintro e w' ⟨rfl, ⟨nd, rfl⟩⟩))
     go_ret
     exact ⟨by first | rfl | (simp [errW_none, errW_some] <;> rfl) | (simp [*, errW_none, errW_some] <;> rfl), by repeat (first | (with_reducible first | exact HB.out | apply below_alloc | apply pw_below_drewN | apply below_drew1 | refine below_set ?_ GE188.out) | exact HB.out)⟩
   ·replace c7 := Bool.eq_false_iff.mpr c7
    subst c7
    have H1 : (some false) = some r := by rw [if_neg (show ¬ (false = true) by decide)] at H; exact H
    clear H
    have H := H1
    clear H1
    obtain rfl := Option.some.inj H
    go_enter Try.func67, Try.ntmps67
    go_wp2_with (first | ((with_reducible refine gate_dst (N := 1) rfl ?_); refine zx 1 #[.int .i64 a0_0, .int .i64 a0_1, .int .i64 a0_2, .int .i64 a0_3, .int .i64 a0_4] 24 ?_; intro gb188 hg w15 hbox hb; have BK188 := Aside0.mk (hbox); have GW188 := zge HB hg; have GE188 := GW188; replace HB := zB HB hb; clear hb hbox hg; obtain ⟨hcz16_0, hcz16_1, hcz16_2, hcz16_3, hcz16_4, hfz16_0, hfz16_1, hfz16_2, hfz16_3, hfz16_4⟩ := zs5 BK188) | ((with_reducible refine gate_callee (f := 80) rfl ?_); refine zL (some 5) Try.func80 #[.int .i64 a0_0, .int .i64 0, .int .i64 500] ?_; (with_reducible refine (spec_l1in.calls a0_0 0 500 true _ A2.out).mono ?_); rintro e w' ⟨rfl, ⟨nd, rfl⟩⟩; refine ⟨_, rfl, ?_⟩) | (go_at_call 80; (with_reducible refine (spec_l1in.calls a0_1 0 1000 true _ A4.out).mono ?_); rintro e w' ⟨rfl, ⟨nd, rfl⟩⟩) | (go_at_call 80; (with_reducible refine (spec_l1in.calls a0_2 0 10000 false _ A6.out).mono ?_); rintro e w' ⟨rfl, ⟨nd, rfl⟩⟩))
    go_ret
    exact ⟨by first | rfl | (simp [errW_none, errW_some] <;> rfl) | (simp [*, errW_none, errW_some] <;> rfl), by repeat (first | (with_reducible first | exact HB.out | apply below_alloc | apply pw_below_drewN | apply below_drew1 | refine below_set ?_ GE188.out) | exact HB.out)⟩
  ·replace c5 := Bool.eq_false_iff.mpr c5
   subst c5
   have H1 : (some false) = some r := by rw [if_neg (show ¬ (false = true) by decide)] at H; exact H
   clear H
   have H := H1
   clear H1
   obtain rfl := Option.some.inj H
   go_enter Try.func67, Try.ntmps67
   go_wp2_with (first | ((with_reducible refine gate_dst (N := 1) rfl ?_); refine zx 1 #[.int .i64 a0_0, .int .i64 a0_1, .int .i64 a0_2, .int .i64 a0_3, .int .i64 a0_4] 24 ?_; intro gb188 hg w17 hbox hb; have BK188 := Aside0.mk (hbox); have GW188 := zge HB hg; have GE188 := GW188; replace HB := zB HB hb; clear hb hbox hg; obtain ⟨hcz18_0, hcz18_1, hcz18_2, hcz18_3, hcz18_4, hfz18_0, hfz18_1, hfz18_2, hfz18_3, hfz18_4⟩ := zs5 BK188) | ((with_reducible refine gate_callee (f := 80) rfl ?_); refine zL (some 5) Try.func80 #[.int .i64 a0_0, .int .i64 0, .int .i64 500] ?_; (with_reducible refine (spec_l1in.calls a0_0 0 500 true _ A2.out).mono ?_); rintro e w' ⟨rfl, ⟨nd, rfl⟩⟩; refine ⟨_, rfl, ?_⟩) | (go_at_call 80; (with_reducible refine (spec_l1in.calls a0_1 0 1000 false _ A4.out).mono ?_); rintro e w' ⟨rfl, ⟨nd, rfl⟩⟩))
   go_ret
   exact ⟨by first | rfl | (simp [errW_none, errW_some] <;> rfl) | (simp [*, errW_none, errW_some] <;> rfl), by repeat (first | (with_reducible first | exact HB.out | apply below_alloc | apply pw_below_drewN | apply below_drew1 | refine below_set ?_ GE188.out) | exact HB.out)⟩
 ·replace c3 := Bool.eq_false_iff.mpr c3
  subst c3
  have H1 : (some false) = some r := by rw [if_neg (show ¬ (false = true) by decide)] at H; exact H
  clear H
  have H := H1
  clear H1
  obtain rfl := Option.some.inj H
  go_enter Try.func67, Try.ntmps67
  go_wp2_with (first | ((with_reducible refine gate_dst (N := 1) rfl ?_); refine zx 1 #[.int .i64 a0_0, .int .i64 a0_1, .int .i64 a0_2, .int .i64 a0_3, .int .i64 a0_4] 24 ?_; intro gb188 hg w19 hbox hb; have BK188 := Aside0.mk (hbox); have GW188 := zge HB hg; have GE188 := GW188; replace HB := zB HB hb; clear hb hbox hg; obtain ⟨hcz20_0, hcz20_1, hcz20_2, hcz20_3, hcz20_4, hfz20_0, hfz20_1, hfz20_2, hfz20_3, hfz20_4⟩ := zs5 BK188) | ((with_reducible refine gate_callee (f := 80) rfl ?_); refine zL (some 5) Try.func80 #[.int .i64 a0_0, .int .i64 0, .int .i64 500] ?_; (with_reducible refine (spec_l1in.calls a0_0 0 500 false _ A2.out).mono ?_); rintro e w' ⟨rfl, ⟨nd, rfl⟩⟩; refine ⟨_, rfl, ?_⟩))
  go_ret
  exact ⟨by first | rfl | (simp [errW_none, errW_some] <;> rfl) | (simp [*, errW_none, errW_some] <;> rfl), by repeat (first | (with_reducible first | exact HB.out | apply below_alloc | apply pw_below_drewN | apply below_drew1 | refine below_set ?_ GE188.out) | exact HB.out)⟩

/-! ### spec_l4true: function 87 -/
def spec_l4true.f (a0_0 : Int) (a0_1 : Int) : Option (Bool) := (spec_l1in.f a0_0 0 100000).bind fun t195 => (if t195 = true then ((spec_l1in.f a0_1 0 100000).bind fun t196 => (some t196)) else (some false))
set_option maxHeartbeats 8000000 in
set_option maxRecDepth 100000 in
theorem spec_l4true.calls (a0_0 : Int) (a0_1 : Int) (r : Bool) (w : World) (h : spec_l4true.f a0_0 a0_1 = some r) :
  Calls Try.prog 87 #[.agg #[.int .i64 a0_0, .int .i64 a0_1]] w fun e w' => e = .returned (.bool r) ∧ Below w.heap.size w w' := by
 have hu90 := Try.underlying90
 have HB := Aside0.mk (Below.refl w.heap.size w)
 have H : ((spec_l1in.f a0_0 0 100000).bind fun t195 => (if t195 = true then ((spec_l1in.f a0_1 0 100000).bind fun t196 => (some t196)) else (some false))) = some r := h
 clear h
 replace H := Option.bind_eq_some_iff.mp H
 obtain ⟨t195, A20, H⟩ := H
 replace H : (if t195 = true then ((spec_l1in.f a0_1 0 100000).bind fun t196 => (some t196)) else (some false)) = some r := H
 have A2 := Aside0.mk A20
 clear A20
 by_cases c3 : t195 = true
 ·subst c3
  have H1 : ((spec_l1in.f a0_1 0 100000).bind fun t196 => (some t196)) = some r := by rw [if_pos rfl] at H; exact H
  clear H
  have H := H1
  clear H1
  replace H := Option.bind_eq_some_iff.mp H
  obtain ⟨t196, A40, H⟩ := H
  replace H : (some t196) = some r := H
  have A4 := Aside0.mk A40
  clear A40
  obtain rfl := Option.some.inj H
  go_enter Try.func87, Try.ntmps87
  go_wp2_with (first | ((with_reducible refine gate_dst (N := 1) rfl ?_); refine zx 1 #[.int .i64 a0_0, .int .i64 a0_1] 90 ?_; intro gb194 hg w5 hbox hb; have BK194 := Aside0.mk (hbox); have GW194 := zge HB hg; have GE194 := GW194; replace HB := zB HB hb; clear hb hbox hg; obtain ⟨hcz6_0, hcz6_1, hfz6_0, hfz6_1⟩ := zs2 BK194) | ((with_reducible refine gate_callee (f := 80) rfl ?_); refine zL (some 5) Try.func80 #[.int .i64 a0_0, .int .i64 0, .int .i64 100000] ?_; (with_reducible refine (spec_l1in.calls a0_0 0 100000 true _ A2.out).mono ?_); rintro e w' ⟨rfl, ⟨nd, rfl⟩⟩; refine ⟨_, rfl, ?_⟩) | (go_at_call 80; (with_reducible refine (spec_l1in.calls a0_1 0 100000 t196 _ A4.out).mono ?_); rintro e w' ⟨rfl, ⟨nd, rfl⟩⟩))
  go_ret
  exact ⟨by first | rfl | (simp [errW_none, errW_some] <;> rfl) | (simp [*, errW_none, errW_some] <;> rfl), by repeat (first | (with_reducible first | exact HB.out | apply below_alloc | apply pw_below_drewN | apply below_drew1 | refine below_set ?_ GE194.out) | exact HB.out)⟩
 ·replace c3 := Bool.eq_false_iff.mpr c3
  subst c3
  have H1 : (some false) = some r := by rw [if_neg (show ¬ (false = true) by decide)] at H; exact H
  clear H
  have H := H1
  clear H1
  obtain rfl := Option.some.inj H
  go_enter Try.func87, Try.ntmps87
  go_wp2_with (first | ((with_reducible refine gate_dst (N := 1) rfl ?_); refine zx 1 #[.int .i64 a0_0, .int .i64 a0_1] 90 ?_; intro gb194 hg w7 hbox hb; have BK194 := Aside0.mk (hbox); have GW194 := zge HB hg; have GE194 := GW194; replace HB := zB HB hb; clear hb hbox hg; obtain ⟨hcz8_0, hcz8_1, hfz8_0, hfz8_1⟩ := zs2 BK194) | ((with_reducible refine gate_callee (f := 80) rfl ?_); refine zL (some 5) Try.func80 #[.int .i64 a0_0, .int .i64 0, .int .i64 100000] ?_; (with_reducible refine (spec_l1in.calls a0_0 0 100000 false _ A2.out).mono ?_); rintro e w' ⟨rfl, ⟨nd, rfl⟩⟩; refine ⟨_, rfl, ?_⟩))
  go_ret
  exact ⟨by first | rfl | (simp [errW_none, errW_some] <;> rfl) | (simp [*, errW_none, errW_some] <;> rfl), by repeat (first | (with_reducible first | exact HB.out | apply below_alloc | apply pw_below_drewN | apply below_drew1 | refine below_set ?_ GE194.out) | exact HB.out)⟩

end Go.Proofs.Ytommdabkkgcgbaa.QFnTrue
