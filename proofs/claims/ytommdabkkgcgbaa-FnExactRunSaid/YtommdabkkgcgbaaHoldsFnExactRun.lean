/- The row of laws.FnExactRun: for every input that can be read as data the call returns true, and each argument reads afterwards as it read before. No conditions. -/
import Derived.Test.YtommdabkkgcgbaaRows
import Derived.Test.YtommdabkkgcgbaaQFnExactRunx14
import Derived.Test.YtommdabkkgcgbaaPureFnExactRun
import Derived.Test.YtommdabkkgcgbaaQFnExactRuna
import Derived.WalkKit
import Derived.ProofKit
import Derived.OpenShut
import Derived.ShutString
import Derived.ChangeOld
import Derived.Below
import Derived.SizedLaws
namespace Go.Proofs.Ytommdabkkgcgbaa.fnExactRun
open Go.ChangeShapes Go.WideShapes Go.ChangeAt Go.RowKit
open Go.ChangeMaps (open_string shut_string)
set_option linter.unusedVariables false
theorem own : ownKnob Try.prog.godebug = none := by kernel_rfl
theorem laidOut : laidOutB Try.prog = true := by kernel_rfl
set_option maxRecDepth 100000 in
theorem lifted (os : Os) (started : os.Started) (H : Type) (enc : TypeId × Value → H) :
    ReturnsInHanded {} Try.checked os 5 .any (Rows.fnExactRunSpec.pre6 enc Try.prog Try.f5 Rows.fnExactRunRow.domain false) (Rows.fnExactRunSpec.post enc Try.prog Try.f5 false true false false) := by
  refine returnsInHanded_of_change_sized (C := Try.checked) own started (by kernel_rfl) Try.func5
    (ChangeSpec.witness6 (enc := enc) (C := Try.checked) false ⟨#[], #[.agg #[.int .i64 0, .int .i64 0, .int .i64 0, .int .i64 0, .int .i64 0], .slice none 0 0, .agg #[.int .i64 0, .int .i64 0], .slice none 0 0], []⟩ 8 (by kernel_rfl) (by kernel_rfl) (by kernel_rfl) (by kernel_rfl)) ?_
  intro W base args ds gs before hval0 hW hcnd hsz0 _
  have hsz : (DataW.weightsEach Try.prog (Try.f5.params.toList ++ Rows.fnExactRunSpec.plain.varTypes Try.prog) (ds ++ gs)).all (· ≤ reachBytes) = true := hsz0
  have hval : ∀ (j : Nat) t v, Try.f5.params[j]? = some t → args[j]? = some v → Value.okWide Try.prog W .any base t v := hval0
  have hW' := hW
  obtain ⟨p, q, hA0, hV, rfl, hfz, hnd⟩ := hW
  have hA : DataW.TrodAll enc Try.prog W 0 (fun _ => true) true Try.f5.params.toList args.toList ds p := hA0
  rw [Try.params5] at hA hval hsz
  obtain ⟨v0, vs0, d0, ds0, p0, q0, hargs, rfl, rfl, h0, r0⟩ := trodAll_cons hA
  obtain ⟨v1, vs1, d1, ds1, p1, q1, rfl, rfl, rfl, h1, r1⟩ := trodAll_cons r0
  obtain ⟨v2, vs2, d2, ds2, p2, q2, rfl, rfl, rfl, h2, r2⟩ := trodAll_cons r1
  obtain ⟨v3, vs3, d3, ds3, p3, q3, rfl, rfl, rfl, h3, r3⟩ := trodAll_cons r2
  obtain ⟨rfl, rfl, rfl⟩ := trodAll_nil r3
  obtain rfl : args = #[v0, v1, v2, v3] := by cases args; simp_all
  obtain ⟨rfl, rfl⟩ := trodVars_none hV
  have k0 := h0
  have lt0 : ∀ x ∈ p0, x.block < W.heap.size := by obtain ⟨m, hm⟩ := k0; exact DataW.trod_lt m _ _ _ hm
  obtain ⟨a0_0, a0_1, a0_2, a0_3, a0_4, rfl, w0_0, w0_1, w0_2, w0_3, w0_4⟩ := Args.agg5 Try.underlying39 (by kernel_rfl) ⟨by kernel_rfl, by kernel_rfl, by kernel_rfl⟩ ⟨by kernel_rfl, by kernel_rfl, by kernel_rfl⟩ ⟨by kernel_rfl, by kernel_rfl, by kernel_rfl⟩ ⟨by kernel_rfl, by kernel_rfl, by kernel_rfl⟩ ⟨by kernel_rfl, by kernel_rfl, by kernel_rfl⟩ (hval 0 39 v0 rfl rfl) h0
  obtain ⟨A1, len1, c1, rfl⟩ := okWide_slice Try.underlying40 (hval 1 40 v1 rfl rfl)
  have k1 := h1
  have lt1 : ∀ x ∈ p1, x.block < W.heap.size := by obtain ⟨m, hm⟩ := k1; exact DataW.trod_lt m _ _ _ hm
  have y1 : len1 * 16 ≤ 140737488351232 := Args.sized hsz (j := 1) (t := 40) rfl rfl Try.underlying40 (by kernel_rfl) h1
  obtain ⟨z1, w1⟩ := Args.pairs Try.underlying40 Try.underlying106 (by kernel_rfl) ⟨by kernel_rfl, by kernel_rfl, by kernel_rfl⟩ ⟨by kernel_rfl, by kernel_rfl, by kernel_rfl⟩ h1
  obtain ⟨l1, hl1⟩ : ∃ l, l = z1.map (fun x => (⟨x.1, x.2⟩ : QFnExactRun.S106)) := ⟨_, rfl⟩
  obtain rfl : len1 = l1.length := by rw [hl1, List.length_map]; exact w1.1.symm
  have hr1 : Go.Proofs.YtommdabkkgcgbaaW.PrintWords.Kd.C QFnExactRun.k106 W A1 l1.length l1 := by rw [hl1]; exact Args.pairs_C (fun x => (⟨x.1, x.2⟩ : QFnExactRun.S106)) rfl (fun w x => QFnExactRun.k106_mk w _) w1
  have wf1 : ∀ x ∈ l1, (Lit.int .i64 x.f0).wf = true ∧ (Lit.int .i64 x.f1).wf = true := by rw [hl1]; intro x hx; obtain ⟨y, hy, rfl⟩ := List.mem_map.1 hx; exact w1.2.2.2.1 y hy
  have k2 := h2
  have lt2 : ∀ x ∈ p2, x.block < W.heap.size := by obtain ⟨m, hm⟩ := k2; exact DataW.trod_lt m _ _ _ hm
  obtain ⟨a2_0, a2_1, rfl, w2_0, w2_1⟩ := Args.agg2 Try.underlying41 (by kernel_rfl) ⟨by kernel_rfl, by kernel_rfl, by kernel_rfl⟩ ⟨by kernel_rfl, by kernel_rfl, by kernel_rfl⟩ (hval 2 41 v2 rfl rfl) h2
  obtain ⟨A3, len3, c3, rfl⟩ := okWide_slice Try.underlying53 (hval 3 53 v3 rfl rfl)
  have k3 := h3
  have lt3 : ∀ x ∈ p3, x.block < W.heap.size := by obtain ⟨m, hm⟩ := k3; exact DataW.trod_lt m _ _ _ hm
  have y3 : len3 * 16 ≤ 140737488351232 := Args.sized hsz (j := 3) (t := 53) rfl rfl Try.underlying53 (by kernel_rfl) h3
  obtain ⟨z3, w3⟩ := Args.pairs Try.underlying53 Try.underlying44 (by kernel_rfl) ⟨by kernel_rfl, by kernel_rfl, by kernel_rfl⟩ ⟨by kernel_rfl, by kernel_rfl, by kernel_rfl⟩ h3
  obtain ⟨l3, hl3⟩ : ∃ l, l = z3.map (fun x => (⟨x.1, x.2⟩ : QFnExactRun.S44)) := ⟨_, rfl⟩
  obtain rfl : len3 = l3.length := by rw [hl3, List.length_map]; exact w3.1.symm
  have hr3 : Go.Proofs.YtommdabkkgcgbaaW.PrintWords.Kd.C QFnExactRun.k44 W A3 l3.length l3 := by rw [hl3]; exact Args.pairs_C (fun x => (⟨x.1, x.2⟩ : QFnExactRun.S44)) rfl (fun w x => QFnExactRun.k44_mk w _) w3
  have wf3 : ∀ x ∈ l3, (Lit.int .i64 x.f0).wf = true ∧ (Lit.int .i64 x.f1).wf = true := by rw [hl3]; intro x hx; obtain ⟨y, hy, rfl⟩ := List.mem_map.1 hx; exact w3.2.2.2.1 y hy
  clear hA0 hval0 hsz0 hsz
  obtain ⟨k, hp⟩ := Pure.FnExactRun a0_0 a0_1 a0_2 a0_3 a0_4 l1 a2_0 a2_1 l3 w0_0 w0_1 w0_2 w0_3 w0_4 y1 wf1 w2_0 w2_1 y3 wf3
  refine (QFnExactRun.laws_FnExactRun.calls k a0_0 a0_1 a0_2 a0_3 a0_4 A1 c1 l1 a2_0 a2_1 A3 c3 l3 true W hr1 w1.2.1 hr3 w3.2.1 hp ⟨rfl⟩).mono fun e W' ⟨he, bel⟩ => ?_
  subst he
  exact ⟨_, rfl, _, _, _, [], _, [], hW', trodAll_mk1 (shut_bool Try.underlying4 _), (trodAll_cons_mk (Below.trod laidOut (by kernel_rfl) (of_decide_eq_true (by kernel_rfl)) k0 bel lt0) (trodAll_cons_mk (Below.trod laidOut (by kernel_rfl) (of_decide_eq_true (by kernel_rfl)) k1 bel lt1) (trodAll_cons_mk (Below.trod laidOut (by kernel_rfl) (of_decide_eq_true (by kernel_rfl)) k2 bel lt2) (trodAll_cons_mk (Below.trod laidOut (by kernel_rfl) (of_decide_eq_true (by kernel_rfl)) k3 bel lt3) trodAll_mk0)))), rfl, bel.frame _, fun h => by cases h⟩
theorem over : Rows.fnExactRunRow.holds Try.pinned (OpenSpec.ofChange Rows.fnExactRunSpec) :=
  OpenClaim.holds_of_wide 5 Try.f5 rfl rfl rfl rfl rfl rfl rfl ⟨rfl, rfl, rfl, rfl, rfl⟩ rfl rfl rfl rfl rfl (by kernel_rfl) Try.func5 (by kernel_rfl)
    (of_decide_eq_true (by kernel_rfl)) (by unfold Func.isWrapper; first | (rw [if_pos (by decide +kernel)]; kernel_rfl) | (rw [if_neg (by decide +kernel)]; exact ⟨rfl, rfl⟩))
    (fun os started H enc _ => lifted os started H enc)
theorem proved : Rows.FnExactRunSaid := over
#print axioms proved
end Go.Proofs.Ytommdabkkgcgbaa.fnExactRun
namespace Go.Proofs.Ytommdabkkgcgbaa
/-- The row, under a short name, for the claim. -/
theorem fnExactRun_holds : Rows.FnExactRunSaid := fnExactRun.proved
end Go.Proofs.Ytommdabkkgcgbaa
