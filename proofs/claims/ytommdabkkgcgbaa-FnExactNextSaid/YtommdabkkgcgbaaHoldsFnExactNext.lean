/- The row of laws.FnExactNext: for every input that can be read as data the call returns true, and each argument reads afterwards as it read before. No conditions. -/
import Derived.Test.YtommdabkkgcgbaaRows
import Derived.Test.YtommdabkkgcgbaaQFnExactNextx3
import Derived.Test.YtommdabkkgcgbaaPureFnExactNext
import Derived.Test.YtommdabkkgcgbaaArgs
import Derived.WalkKit
import Derived.ProofKit
import Derived.OpenShut
import Derived.ShutString
import Derived.ChangeOld
import Derived.Below
import Derived.SizedLaws
namespace Go.Proofs.Ytommdabkkgcgbaa.fnExactNext
open Go.ChangeShapes Go.WideShapes Go.ChangeAt Go.RowKit
open Go.ChangeMaps (open_string shut_string)
set_option linter.unusedVariables false
theorem own : ownKnob Try.prog.godebug = none := by kernel_rfl
theorem laidOut : laidOutB Try.prog = true := by kernel_rfl
set_option maxRecDepth 100000 in
theorem lifted (os : Os) (started : os.Started) (H : Type) (enc : TypeId × Value → H) :
    ReturnsInHanded {} Try.checked os 9 .any (Rows.fnExactNextSpec.pre6 enc Try.prog Try.f9 Rows.fnExactNextRow.domain false) (Rows.fnExactNextSpec.post enc Try.prog Try.f9 false true false false) := by
  refine returnsInHanded_of_change_sized (C := Try.checked) own started (by kernel_rfl) Try.func9
    (ChangeSpec.witness6 (enc := enc) (C := Try.checked) false ⟨#[], #[.slice none 0 0, .agg #[.bool false, .int .i64 0, .int .i64 0, .int .i64 0, .int .i64 0, .int .i64 0]], []⟩ 8 (by kernel_rfl) (by kernel_rfl) (by kernel_rfl) (by kernel_rfl)) ?_
  intro W base args ds gs before hval0 hW hcnd hsz0 _
  have hsz : (DataW.weightsEach Try.prog (Try.f9.params.toList ++ Rows.fnExactNextSpec.plain.varTypes Try.prog) (ds ++ gs)).all (· ≤ reachBytes) = true := hsz0
  have hval : ∀ (j : Nat) t v, Try.f9.params[j]? = some t → args[j]? = some v → Value.okWide Try.prog W .any base t v := hval0
  have hW' := hW
  obtain ⟨p, q, hA0, hV, rfl, hfz, hnd⟩ := hW
  have hA : DataW.TrodAll enc Try.prog W 0 (fun _ => true) true Try.f9.params.toList args.toList ds p := hA0
  rw [Try.params9] at hA hval hsz
  obtain ⟨v0, vs0, d0, ds0, p0, q0, hargs, rfl, rfl, h0, r0⟩ := trodAll_cons hA
  obtain ⟨v1, vs1, d1, ds1, p1, q1, rfl, rfl, rfl, h1, r1⟩ := trodAll_cons r0
  obtain ⟨rfl, rfl, rfl⟩ := trodAll_nil r1
  obtain rfl : args = #[v0, v1] := by cases args; simp_all
  obtain ⟨rfl, rfl⟩ := trodVars_none hV
  obtain ⟨A0, len0, c0, rfl⟩ := okWide_slice Try.underlying40 (hval 0 40 v0 rfl rfl)
  have k0 := h0
  have lt0 : ∀ x ∈ p0, x.block < W.heap.size := by obtain ⟨m, hm⟩ := k0; exact DataW.trod_lt m _ _ _ hm
  have y0 : len0 * 16 ≤ 140737488351232 := Args.sized hsz (j := 0) (t := 40) rfl rfl Try.underlying40 (by kernel_rfl) h0
  obtain ⟨z0, w0⟩ := Args.pairs Try.underlying40 Try.underlying106 (by kernel_rfl) ⟨by kernel_rfl, by kernel_rfl, by kernel_rfl⟩ ⟨by kernel_rfl, by kernel_rfl, by kernel_rfl⟩ h0
  obtain ⟨l0, hl0⟩ : ∃ l, l = z0.map (fun x => (⟨x.1, x.2⟩ : QFnExactNext.S106)) := ⟨_, rfl⟩
  obtain rfl : len0 = l0.length := by rw [hl0, List.length_map]; exact w0.1.symm
  have hr0 : Go.Proofs.YtommdabkkgcgbaaW.PrintWords.Kd.C QFnExactNext.k106 W A0 l0.length l0 := by rw [hl0]; exact Args.pairs_C (fun x => (⟨x.1, x.2⟩ : QFnExactNext.S106)) rfl (fun w x => QFnExactNext.k106_mk w _) w0
  have wf0 : ∀ x ∈ l0, (Lit.int .i64 x.f0).wf = true ∧ (Lit.int .i64 x.f1).wf = true := by rw [hl0]; intro x hx; obtain ⟨y, hy, rfl⟩ := List.mem_map.1 hx; exact w0.2.2.2.1 y hy
  have k1 := h1
  have lt1 : ∀ x ∈ p1, x.block < W.heap.size := by obtain ⟨m, hm⟩ := k1; exact DataW.trod_lt m _ _ _ hm
  obtain ⟨a1_0, a1_1, a1_2, a1_3, a1_4, a1_5, rfl, w1_1, w1_2, w1_3, w1_4, w1_5⟩ := Args.aggS Try.underlying43 (by kernel_rfl) ⟨by kernel_rfl, by kernel_rfl, by kernel_rfl⟩ Try.underlying41 (by kernel_rfl) (by kernel_rfl) ⟨by kernel_rfl, by kernel_rfl, by kernel_rfl⟩ ⟨by kernel_rfl, by kernel_rfl, by kernel_rfl⟩ ⟨by kernel_rfl, by kernel_rfl, by kernel_rfl⟩ ⟨by kernel_rfl, by kernel_rfl, by kernel_rfl⟩ ⟨by kernel_rfl, by kernel_rfl, by kernel_rfl⟩ (hval 1 43 v1 rfl rfl) h1
  clear hA0 hval0 hsz0 hsz
  obtain ⟨k, hp⟩ := Pure.FnExactNext l0 a1_0 a1_1 a1_2 a1_3 a1_4 a1_5 y0 wf0 w1_1 w1_2 w1_3 w1_4 w1_5
  refine (QFnExactNext.laws_FnExactNext.calls k A0 c0 l0 a1_0 a1_1 a1_2 a1_3 a1_4 a1_5 true W hr0 w0.2.1 hp ⟨rfl⟩).mono fun e W' ⟨he, bel⟩ => ?_
  subst he
  exact ⟨_, rfl, _, _, _, [], _, [], hW', trodAll_mk1 (shut_bool Try.underlying4 _), (trodAll_cons_mk (Below.trod laidOut (by kernel_rfl) (of_decide_eq_true (by kernel_rfl)) k0 bel lt0) (trodAll_cons_mk (Below.trod laidOut (by kernel_rfl) (of_decide_eq_true (by kernel_rfl)) k1 bel lt1) trodAll_mk0)), rfl, bel.frame _, fun h => by cases h⟩
theorem over : Rows.fnExactNextRow.holds Try.pinned (OpenSpec.ofChange Rows.fnExactNextSpec) :=
  OpenClaim.holds_of_wide 9 Try.f9 rfl rfl rfl rfl rfl rfl rfl ⟨rfl, rfl, rfl, rfl, rfl⟩ rfl rfl rfl rfl rfl (by kernel_rfl) Try.func9 (by kernel_rfl)
    (of_decide_eq_true (by kernel_rfl)) (by unfold Func.isWrapper; first | (rw [if_pos (by decide +kernel)]; kernel_rfl) | (rw [if_neg (by decide +kernel)]; exact ⟨rfl, rfl⟩))
    (fun os started H enc _ => lifted os started H enc)
theorem proved : Rows.FnExactNextSaid := over
#print axioms proved
end Go.Proofs.Ytommdabkkgcgbaa.fnExactNext
namespace Go.Proofs.Ytommdabkkgcgbaa
/-- The row, under a short name, for the claim. -/
theorem fnExactNext_holds : Rows.FnExactNextSaid := fnExactNext.proved
end Go.Proofs.Ytommdabkkgcgbaa
