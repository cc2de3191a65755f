/- The row of laws.FnExactMarksOk: for every input that can be read as data the call returns true, and each argument reads afterwards as it read before. No conditions. -/
import Derived.Test.YtommdabkkgcgbaaRows
import Derived.Test.YtommdabkkgcgbaaQFnExactMarksOkx2
import Derived.Test.YtommdabkkgcgbaaPureFnExactMarksOk
import Derived.Test.YtommdabkkgcgbaaArgs
import Derived.WalkKit
import Derived.ProofKit
import Derived.OpenShut
import Derived.ShutString
import Derived.ChangeOld
import Derived.Below
import Derived.SizedLaws
namespace Go.Proofs.Ytommdabkkgcgbaa.fnExactMarksOk
open Go.ChangeShapes Go.WideShapes Go.ChangeAt Go.RowKit
open Go.ChangeMaps (open_string shut_string)
set_option linter.unusedVariables false
theorem own : ownKnob Try.prog.godebug = none := by kernel_rfl
theorem laidOut : laidOutB Try.prog = true := by kernel_rfl
set_option maxRecDepth 100000 in
theorem lifted (os : Os) (started : os.Started) (H : Type) (enc : TypeId × Value → H) :
    ReturnsInHanded {} Try.checked os 6 .any (Rows.fnExactMarksOkSpec.pre6 enc Try.prog Try.f6 Rows.fnExactMarksOkRow.domain false) (Rows.fnExactMarksOkSpec.post enc Try.prog Try.f6 false true false false) := by
  refine returnsInHanded_of_change_sized (C := Try.checked) own started (by kernel_rfl) Try.func6
    (ChangeSpec.witness6 (enc := enc) (C := Try.checked) false ⟨#[], #[.slice none 0 0], []⟩ 8 (by kernel_rfl) (by kernel_rfl) (by kernel_rfl) (by kernel_rfl)) ?_
  intro W base args ds gs before hval0 hW hcnd hsz0 _
  have hsz : (DataW.weightsEach Try.prog (Try.f6.params.toList ++ Rows.fnExactMarksOkSpec.plain.varTypes Try.prog) (ds ++ gs)).all (· ≤ reachBytes) = true := hsz0
  have hval : ∀ (j : Nat) t v, Try.f6.params[j]? = some t → args[j]? = some v → Value.okWide Try.prog W .any base t v := hval0
  have hW' := hW
  obtain ⟨p, q, hA0, hV, rfl, hfz, hnd⟩ := hW
  have hA : DataW.TrodAll enc Try.prog W 0 (fun _ => true) true Try.f6.params.toList args.toList ds p := hA0
  rw [Try.params6] at hA hval hsz
  obtain ⟨v0, vs0, d0, ds0, p0, q0, hargs, rfl, rfl, h0, r0⟩ := trodAll_cons hA
  obtain ⟨rfl, rfl, rfl⟩ := trodAll_nil r0
  obtain rfl : args = #[v0] := by cases args; simp_all
  obtain ⟨rfl, rfl⟩ := trodVars_none hV
  obtain ⟨A0, len0, c0, rfl⟩ := okWide_slice Try.underlying40 (hval 0 40 v0 rfl rfl)
  have k0 := h0
  have lt0 : ∀ x ∈ p0, x.block < W.heap.size := by obtain ⟨m, hm⟩ := k0; exact DataW.trod_lt m _ _ _ hm
  have y0 : len0 * 16 ≤ 140737488351232 := Args.sized hsz (j := 0) (t := 40) rfl rfl Try.underlying40 (by kernel_rfl) h0
  obtain ⟨z0, w0⟩ := Args.pairs Try.underlying40 Try.underlying106 (by kernel_rfl) ⟨by kernel_rfl, by kernel_rfl, by kernel_rfl⟩ ⟨by kernel_rfl, by kernel_rfl, by kernel_rfl⟩ h0
  obtain ⟨l0, hl0⟩ : ∃ l, l = z0.map (fun x => (⟨x.1, x.2⟩ : QFnExactMarksOk.S106)) := ⟨_, rfl⟩
  obtain rfl : len0 = l0.length := by rw [hl0, List.length_map]; exact w0.1.symm
  have hr0 : Go.Proofs.YtommdabkkgcgbaaW.PrintWords.Kd.C QFnExactMarksOk.k106 W A0 l0.length l0 := by rw [hl0]; exact Args.pairs_C (fun x => (⟨x.1, x.2⟩ : QFnExactMarksOk.S106)) rfl (fun w x => QFnExactMarksOk.k106_mk w _) w0
  have wf0 : ∀ x ∈ l0, (Lit.int .i64 x.f0).wf = true ∧ (Lit.int .i64 x.f1).wf = true := by rw [hl0]; intro x hx; obtain ⟨y, hy, rfl⟩ := List.mem_map.1 hx; exact w0.2.2.2.1 y hy
  clear hA0 hval0 hsz0 hsz
  obtain ⟨k, hp⟩ := Pure.FnExactMarksOk l0 y0 wf0
  refine (QFnExactMarksOk.laws_FnExactMarksOk.calls k A0 c0 l0 true W hr0 w0.2.1 hp ⟨rfl⟩).mono fun e W' ⟨he, bel⟩ => ?_
  subst he
  exact ⟨_, rfl, _, _, _, [], _, [], hW', trodAll_mk1 (shut_bool Try.underlying4 _), (trodAll_cons_mk (Below.trod laidOut (by kernel_rfl) (of_decide_eq_true (by kernel_rfl)) k0 bel lt0) trodAll_mk0), rfl, bel.frame _, fun h => by cases h⟩
theorem over : Rows.fnExactMarksOkRow.holds Try.pinned (OpenSpec.ofChange Rows.fnExactMarksOkSpec) :=
  OpenClaim.holds_of_wide 6 Try.f6 rfl rfl rfl rfl rfl rfl rfl ⟨rfl, rfl, rfl, rfl, rfl⟩ rfl rfl rfl rfl rfl (by kernel_rfl) Try.func6 (by kernel_rfl)
    (of_decide_eq_true (by kernel_rfl)) (by unfold Func.isWrapper; first | (rw [if_pos (by decide +kernel)]; kernel_rfl) | (rw [if_neg (by decide +kernel)]; exact ⟨rfl, rfl⟩))
    (fun os started H enc _ => lifted os started H enc)
theorem proved : Rows.FnExactMarksOkSaid := over
#print axioms proved
end Go.Proofs.Ytommdabkkgcgbaa.fnExactMarksOk
namespace Go.Proofs.Ytommdabkkgcgbaa
/-- The row, under a short name, for the claim. -/
theorem fnExactMarksOk_holds : Rows.FnExactMarksOkSaid := fnExactMarksOk.proved
end Go.Proofs.Ytommdabkkgcgbaa
