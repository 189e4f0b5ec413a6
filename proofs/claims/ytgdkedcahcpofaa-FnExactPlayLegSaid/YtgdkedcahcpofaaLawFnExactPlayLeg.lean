/- The row of the law FnExactPlayLeg: for every input that reads as data the law returns true, and each argument reads afterwards as it read before. Conditions: the row's own. Written by this session's rows.py. -/
import Derived.Test.YtgdkedcahcpofaaRows
import Derived.Test.YtgdkedcahcpofaaPAx22
import Derived.Test.YtgdkedcahcpofaaPureFnExactPlayLeg
import Derived.Test.YtgdkedcahcpofaaHandOpen
import Derived.WalkKit
import Derived.ProofKit
import Derived.OpenShut
import Derived.ShutString
import Derived.ChangeOld
import Derived.Below
import Derived.SizedLaws
import Derived.Carry
namespace Go.Proofs.Ytgdkedcahcpofaa.fnExactPlayLeg
open Go.ChangeShapes Go.WideShapes Go.ChangeAt Go.RowKit Go.Proofs.YtgdkedcahcpofaaH Go.Proofs.Ytgdkedcahcpofaa.PA Go.Proofs.YtgdkedcahcpofaaW.PrintWords
open Go.ChangeMaps (open_string shut_string)
set_option linter.unusedVariables false
set_option linter.unusedSimpArgs false
theorem own : ownKnob Try.prog.godebug = none := by kernel_rfl
theorem laidOut : laidOutB Try.prog = true := by kernel_rfl
set_option maxRecDepth 100000 in
theorem lifted (os : Os) (started : os.Started) (H : Type) (enc : TypeId × Value → H) :
    ReturnsInHanded {} Try.checked os 3 .any (Rows.fnExactPlayLegSpec.pre6 enc Try.prog Try.f3 Rows.fnExactPlayLegRow.domain false) (Rows.fnExactPlayLegSpec.post enc Try.prog Try.f3 false true false false) := by
  refine returnsInHanded_of_change_sized (C := Try.checked) own started (by kernel_rfl) Try.func3
    (ChangeSpec.witness6 (enc := enc) (C := Try.checked) false ⟨#[], #[.int .i64 0, .slice none 0 0], []⟩ 8 (by kernel_rfl) (by kernel_rfl) (by kernel_rfl) (by kernel_rfl)) ?_
  intro W base args ds gs before hval0 hW hcnd hsz0 _
  have hsz : (DataW.weightsEach Try.prog (Try.f3.params.toList ++ Rows.fnExactPlayLegSpec.plain.varTypes Try.prog) (ds ++ gs)).all (· ≤ reachBytes) = true := hsz0
  have hval : ∀ (j : Nat) t v, Try.f3.params[j]? = some t → args[j]? = some v → Value.okWide Try.prog W .any base t v := hval0
  have hW' := hW
  obtain ⟨p, q, hA0, hV, rfl, hfz, hnd⟩ := hW
  have hA : DataW.TrodAll enc Try.prog W 0 (fun _ => true) true Try.f3.params.toList args.toList ds p := hA0
  rw [Try.params3] at hA hval hsz
  obtain ⟨v0, vs0, d0, ds0, p0, q0, hargs, rfl, rfl, h0, r0⟩ := trodAll_cons hA
  obtain ⟨v1, vs1, d1, ds1, p1, q1, rfl, rfl, rfl, h1, r1⟩ := trodAll_cons r0
  obtain ⟨rfl, rfl, rfl⟩ := trodAll_nil r1
  obtain rfl : args = #[v0, v1] := by cases args; simp_all
  obtain ⟨rfl, rfl⟩ := trodVars_none hV
  obtain ⟨a0, rfl, rfl, rfl, w0⟩ := open_int Try.underlying3 (hval 0 3 v0 rfl rfl) h0
  obtain ⟨A1, len1, c1, rfl⟩ := okWide_slice Try.underlying22 (hval 1 22 v1 rfl rfl)
  have k1 := h1
  have lt1 : ∀ x ∈ p1, x.block < W.heap.size := by obtain ⟨m, hm⟩ := k1; exact DataW.trod_lt m _ _ _ hm
  obtain ⟨l1, K1, g1⟩ : ∃ l : List (List (S51)), (Kd.slice 35 (Kd.slice 51 k51)).K W l [.slice A1 len1 c1] ∧ (l.length ≤ maxLen ∧ ∀ y_l ∈ l, y_l.length ≤ maxLen ∧ ∀ y_y_l ∈ y_l, (Lit.int .i64 y_y_l.f0).wf = true ∧ (Lit.int .i64 y_y_l.f1).wf = true) := by
    obtain ⟨m, hm⟩ := h1
    exact (Opn.slice (d := (Kd.slice 51 k51)) Try.underlying22 (by kernel_rfl) (Opn.slice (d := k51) Try.underlying35 (by kernel_rfl) (show Opn _ k51 51 _ from Opn.struct2 Try.underlying51 (by kernel_rfl) (by kernel_rfl) (Opn.int Try.underlying3) (Opn.int Try.underlying3) (fun x : S51 => (x.f0, x.f1)) (fun y0 y1 => ⟨y0, y1⟩) (fun _ _ => rfl)))) H enc W true m _ _ hm
  have y1 : len1 * 24 ≤ 140737488351232 := sized_any hsz (j := 1) (t := 22) rfl rfl Try.underlying22 (by kernel_rfl) k1
  obtain ⟨A'1, c'1, e1, hc1, hr1⟩ := K1
  simp only [List.cons.injEq, Value.slice.injEq, and_true] at e1
  obtain ⟨rfl, rfl, rfl⟩ := e1
  clear hA0
  obtain ⟨k, hP⟩ := Pure.FnExactPlayLeg a0 l1 w0 g1 y1
  refine (laws_FnExactPlayLeg.calls k a0 A1 c1 l1 true W hr1 hc1 hP).mono fun e W' ⟨he, bel0⟩ => ?_
  have bel : Below W.heap.size W W' := bel0
  subst he
  exact ⟨_, rfl, _, _, _, [], _, [], hW', trodAll_mk1 (shut_bool Try.underlying4 _), (trodAll_cons_mk (shut_int Try.underlying3 w0) (trodAll_cons_mk (Below.trod laidOut (by kernel_rfl) (of_decide_eq_true (by kernel_rfl)) k1 bel lt1) trodAll_mk0)), rfl, bel.frame _, fun h => by cases h⟩
theorem over : Rows.fnExactPlayLegRow.holds Try.pinned (OpenSpec.ofChange Rows.fnExactPlayLegSpec) :=
  OpenClaim.holds_of_wide 3 Try.f3 rfl rfl rfl rfl rfl rfl rfl ⟨rfl, rfl, rfl, rfl, rfl⟩ rfl rfl rfl rfl rfl (by kernel_rfl) Try.func3 (by kernel_rfl)
    (of_decide_eq_true (by kernel_rfl)) (by unfold Func.isWrapper; first | (rw [if_pos (by decide +kernel)]; kernel_rfl) | (rw [if_neg (by decide +kernel)]; exact ⟨rfl, rfl⟩))
    (fun os started H enc _ => lifted os started H enc)
theorem proved : Rows.FnExactPlayLegSaid := over
#print axioms proved
end Go.Proofs.Ytgdkedcahcpofaa.fnExactPlayLeg
namespace Go.Proofs.Ytgdkedcahcpofaa
/-- The row, under a short name, for the claim. -/
theorem fnExactPlayLeg_holds : Rows.FnExactPlayLegSaid := fnExactPlayLeg.proved
end Go.Proofs.Ytgdkedcahcpofaa
