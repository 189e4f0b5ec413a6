/- The row of the law FnExactMissBall: for every input that reads as data the law returns true, and each argument reads afterwards as it read before. Conditions: the row's own. Written by this session's rows.py. -/
import Derived.Test.YtbkceiegfllngaaRows
import Derived.Test.YtbkceiegfllngaaPAx39
import Derived.Test.YtbkceiegfllngaaPureFnExactMissBall
import Derived.Test.YtbkceiegfllngaaHandOpen
import Derived.WalkKit
import Derived.ProofKit
import Derived.OpenShut
import Derived.ShutString
import Derived.ChangeOld
import Derived.Below
import Derived.SizedLaws
import Derived.Carry
namespace Go.Proofs.Ytbkceiegfllngaa.fnExactMissBall
open Go.ChangeShapes Go.WideShapes Go.ChangeAt Go.RowKit Go.Proofs.YtbkceiegfllngaaH Go.Proofs.Ytbkceiegfllngaa.PA Go.Proofs.YtbkceiegfllngaaW.PrintWords
open Go.ChangeMaps (open_string shut_string)
set_option linter.unusedVariables false
set_option linter.unusedSimpArgs false
theorem own : ownKnob Try.prog.godebug = none := by kernel_rfl
theorem laidOut : laidOutB Try.prog = true := by kernel_rfl
set_option maxRecDepth 100000 in
theorem lifted (os : Os) (started : os.Started) (H : Type) (enc : TypeId × Value → H) :
    ReturnsInHanded {} Try.checked os 12 .any (Rows.fnExactMissBallSpec.pre6 enc Try.prog Try.f12 Rows.fnExactMissBallRow.domain false) (Rows.fnExactMissBallSpec.post enc Try.prog Try.f12 false true false false) := by
  refine returnsInHanded_of_change_sized (C := Try.checked) own started (by kernel_rfl) Try.func12
    (ChangeSpec.witness6 (enc := enc) (C := Try.checked) false ⟨#[], #[.agg #[.int .i64 0, .bool false, .int .i64 0]], []⟩ 8 (by kernel_rfl) (by kernel_rfl) (by kernel_rfl) (by kernel_rfl)) ?_
  intro W base args ds gs before hval0 hW hcnd hsz0 _
  have hsz : (DataW.weightsEach Try.prog (Try.f12.params.toList ++ Rows.fnExactMissBallSpec.plain.varTypes Try.prog) (ds ++ gs)).all (· ≤ reachBytes) = true := hsz0
  have hval : ∀ (j : Nat) t v, Try.f12.params[j]? = some t → args[j]? = some v → Value.okWide Try.prog W .any base t v := hval0
  have hW' := hW
  obtain ⟨p, q, hA0, hV, rfl, hfz, hnd⟩ := hW
  have hA : DataW.TrodAll enc Try.prog W 0 (fun _ => true) true Try.f12.params.toList args.toList ds p := hA0
  rw [Try.params12] at hA hval hsz
  obtain ⟨v0, vs0, d0, ds0, p0, q0, hargs, rfl, rfl, h0, r0⟩ := trodAll_cons hA
  obtain ⟨rfl, rfl, rfl⟩ := trodAll_nil r0
  obtain rfl : args = #[v0] := by cases args; simp_all
  obtain ⟨rfl, rfl⟩ := trodVars_none hV
  have k0 := h0
  have lt0 : ∀ x ∈ p0, x.block < W.heap.size := by obtain ⟨m, hm⟩ := k0; exact DataW.trod_lt m _ _ _ hm
  obtain ⟨cs0, rfl, hcs0⟩ := okWide_struct Try.underlying33 (hval 0 33 v0 rfl rfl)
  obtain ⟨x0, K0, g0⟩ : ∃ x : S33, k33.K W x cs0.toList ∧ ((Lit.int .i64 x.f0).wf = true ∧ True ∧ (Lit.int .i64 x.f2).wf = true) := by
    obtain ⟨m, hm⟩ := h0
    exact (show Opn _ k33 33 _ from Opn.struct3 Try.underlying33 (by kernel_rfl) (by kernel_rfl) (Opn.int Try.underlying3) (Opn.bool Try.underlying4) (Opn.int Try.underlying3) (fun x : S33 => (x.f0, x.f1, x.f2)) (fun y0 y1 y2 => ⟨y0, y1, y2⟩) (fun _ _ _ => rfl)) H enc W true m _ _ hm
  obtain rfl : cs0 = #[.int .i64 x0.f0, .bool x0.f1, .int .i64 x0.f2] := by have e := k33_open K0; cases cs0; simp only at e; rw [e]
  clear hA0
  obtain ⟨k, hP⟩ := Pure.FnExactMissBall x0.f0 x0.f1 x0.f2 g0
  refine (laws_FnExactMissBall.calls k x0.f0 x0.f1 x0.f2 true W  hP).mono fun e W' ⟨he, bel0⟩ => ?_
  have bel : Below W.heap.size W W' := bel0
  subst he
  exact ⟨_, rfl, _, _, _, [], _, [], hW', trodAll_mk1 (shut_bool Try.underlying4 _), (trodAll_cons_mk (Below.trod laidOut (by kernel_rfl) (of_decide_eq_true (by kernel_rfl)) k0 bel lt0) trodAll_mk0), rfl, bel.frame _, fun h => by cases h⟩
theorem over : Rows.fnExactMissBallRow.holds Try.pinned (OpenSpec.ofChange Rows.fnExactMissBallSpec) :=
  OpenClaim.holds_of_wide 12 Try.f12 rfl rfl rfl rfl rfl rfl rfl ⟨rfl, rfl, rfl, rfl, rfl⟩ rfl rfl rfl rfl rfl (by kernel_rfl) Try.func12 (by kernel_rfl)
    (of_decide_eq_true (by kernel_rfl)) (by unfold Func.isWrapper; first | (rw [if_pos (by decide +kernel)]; kernel_rfl) | (rw [if_neg (by decide +kernel)]; exact ⟨rfl, rfl⟩))
    (fun os started H enc _ => lifted os started H enc)
theorem proved : Rows.FnExactMissBallSaid := over
#print axioms proved
end Go.Proofs.Ytbkceiegfllngaa.fnExactMissBall
namespace Go.Proofs.Ytbkceiegfllngaa
/-- The row, under a short name, for the claim. -/
theorem fnExactMissBall_holds : Rows.FnExactMissBallSaid := fnExactMissBall.proved
end Go.Proofs.Ytbkceiegfllngaa
