/- The row of laws.FnRead: for every input that can be read as data the call returns true, and each argument reads afterwards as it read before. No conditions. -/
import Derived.Test.YtommdabkkgcgbaaRows
import Derived.Test.YtommdabkkgcgbaaQFnReadx12
import Derived.Test.YtommdabkkgcgbaaPureFnRead
import Derived.Test.YtommdabkkgcgbaaQFnReada
import Derived.WalkKit
import Derived.ProofKit
import Derived.OpenShut
import Derived.ShutString
import Derived.ChangeOld
import Derived.Below
import Derived.SizedLaws
namespace Go.Proofs.Ytommdabkkgcgbaa.fnRead
open Go.ChangeShapes Go.WideShapes Go.ChangeAt Go.RowKit
open Go.ChangeMaps (open_string shut_string)
set_option linter.unusedVariables false
theorem own : ownKnob Try.prog.godebug = none := by kernel_rfl
theorem laidOut : laidOutB Try.prog = true := by kernel_rfl
set_option maxRecDepth 100000 in
theorem lifted (os : Os) (started : os.Started) (H : Type) (enc : TypeId × Value → H) :
    ReturnsInHanded {} Try.checked os 3 .any (Rows.fnReadSpec.pre6 enc Try.prog Try.f3 Rows.fnReadRow.domain false) (Rows.fnReadSpec.post enc Try.prog Try.f3 false true false false) := by
  refine returnsInHanded_of_change_sized (C := Try.checked) own started (by kernel_rfl) Try.func3
    (ChangeSpec.witness6 (enc := enc) (C := Try.checked) false ⟨#[], #[.slice none 0 0, .slice none 0 0], []⟩ 8 (by kernel_rfl) (by kernel_rfl) (by kernel_rfl) (by kernel_rfl)) ?_
  intro W base args ds gs before hval0 hW hcnd hsz0 _
  have hsz : (DataW.weightsEach Try.prog (Try.f3.params.toList ++ Rows.fnReadSpec.plain.varTypes Try.prog) (ds ++ gs)).all (· ≤ reachBytes) = true := hsz0
  have hval : ∀ (j : Nat) t v, Try.f3.params[j]? = some t → args[j]? = some v → Value.okWide Try.prog W .any base t v := hval0
  have hW' := hW
  obtain ⟨p, q, hA0, hV, rfl, hfz, hnd⟩ := hW
  have hA : DataW.TrodAll enc Try.prog W 0 (fun _ => true) true Try.f3.params.toList args.toList ds p := hA0
  rw [Try.params3] at hA hval hsz
  obtain ⟨v0, vs0, d0, ds0, p0, q0, hargs, rfl, rfl, h0, r0⟩ := trodAll_cons hA
  obtain ⟨v1, vs1, d1, ds1, p1, q1, rfl, rfl, rfl, h1, r1⟩ := trodAll_cons r0
  obtain ⟨rfl, rfl, rfl⟩ := trodAll_nil r1
  obtain rfl : args = #[v0, v1] := by cases args; simp_all
  obtain ⟨rfl, rfl⟩ := trodVars_none hV
  obtain ⟨A0, len0, c0, rfl⟩ := okWide_slice Try.underlying22 (hval 0 22 v0 rfl rfl)
  have k0 := h0
  have lt0 : ∀ x ∈ p0, x.block < W.heap.size := by obtain ⟨m, hm⟩ := k0; exact DataW.trod_lt m _ _ _ hm
  have y0 : len0 * 1 ≤ 140737488351232 := Args.sized hsz (j := 0) (t := 22) rfl rfl Try.underlying22 (by kernel_rfl) h0
  obtain ⟨l0, w0⟩ := Args.ints Try.underlying22 Try.underlying5 (by kernel_rfl) h0
  obtain rfl : len0 = l0.length := w0.1.symm
  have hr0 : Go.Proofs.YtommdabkkgcgbaaW.PrintWords.Kd.C (Go.Proofs.YtommdabkkgcgbaaW.PrintWords.Kd.int .u8) W A0 l0.length l0 := Args.ints_C w0
  have wf0 : ∀ x ∈ l0, (Lit.int .u8 x).wf = true := w0.2.2.2.1
  obtain ⟨A1, len1, c1, rfl⟩ := okWide_slice Try.underlying22 (hval 1 22 v1 rfl rfl)
  have k1 := h1
  have lt1 : ∀ x ∈ p1, x.block < W.heap.size := by obtain ⟨m, hm⟩ := k1; exact DataW.trod_lt m _ _ _ hm
  have y1 : len1 * 1 ≤ 140737488351232 := Args.sized hsz (j := 1) (t := 22) rfl rfl Try.underlying22 (by kernel_rfl) h1
  obtain ⟨l1, w1⟩ := Args.ints Try.underlying22 Try.underlying5 (by kernel_rfl) h1
  obtain rfl : len1 = l1.length := w1.1.symm
  have hr1 : Go.Proofs.YtommdabkkgcgbaaW.PrintWords.Kd.C (Go.Proofs.YtommdabkkgcgbaaW.PrintWords.Kd.int .u8) W A1 l1.length l1 := Args.ints_C w1
  have wf1 : ∀ x ∈ l1, (Lit.int .u8 x).wf = true := w1.2.2.2.1
  clear hA0 hval0 hsz0 hsz
  obtain ⟨k, hp⟩ := Pure.FnRead l0 l1 y0 wf0 y1 wf1
  refine (QFnRead.laws_FnRead.calls k A0 c0 l0 A1 c1 l1 true W hr0 w0.2.1 hr1 w1.2.1 hp ⟨rfl⟩).mono fun e W' ⟨he, bel⟩ => ?_
  subst he
  exact ⟨_, rfl, _, _, _, [], _, [], hW', trodAll_mk1 (shut_bool Try.underlying4 _), (trodAll_cons_mk (Below.trod laidOut (by kernel_rfl) (of_decide_eq_true (by kernel_rfl)) k0 bel lt0) (trodAll_cons_mk (Below.trod laidOut (by kernel_rfl) (of_decide_eq_true (by kernel_rfl)) k1 bel lt1) trodAll_mk0)), rfl, bel.frame _, fun h => by cases h⟩
theorem over : Rows.fnReadRow.holds Try.pinned (OpenSpec.ofChange Rows.fnReadSpec) :=
  OpenClaim.holds_of_wide 3 Try.f3 rfl rfl rfl rfl rfl rfl rfl ⟨rfl, rfl, rfl, rfl, rfl⟩ rfl rfl rfl rfl rfl (by kernel_rfl) Try.func3 (by kernel_rfl)
    (of_decide_eq_true (by kernel_rfl)) (by unfold Func.isWrapper; first | (rw [if_pos (by decide +kernel)]; kernel_rfl) | (rw [if_neg (by decide +kernel)]; exact ⟨rfl, rfl⟩))
    (fun os started H enc _ => lifted os started H enc)
theorem proved : Rows.FnReadSaid := over
#print axioms proved
end Go.Proofs.Ytommdabkkgcgbaa.fnRead
namespace Go.Proofs.Ytommdabkkgcgbaa
/-- The row, under a short name, for the claim. -/
theorem fnRead_holds : Rows.FnReadSaid := fnRead.proved
end Go.Proofs.Ytommdabkkgcgbaa
