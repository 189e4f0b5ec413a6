/- Printed by this session's drive.py (the kit's print.py with hooks): functions of the seat as plain Lean functions, and the proofs that the calls do what these say. -/
import Derived.Test.YtjnkcgddalbojaaDoorPAx0
import Derived.Test.YtjnkcgddalbojaaDoorPAx1029
import Derived.Test.YtjnkcgddalbojaaDoorPAx2
import Derived.Test.YtjnkcgddalbojaaDoorPAx4
import Derived.Test.YtjnkcgddalbojaaDoorPAx6
namespace Go.Proofs.YtjnkcgddalbojaaDoor.PA
open Go.RowKit Go.Proofs.YtjnkcgddalbojaaDoorW.PrintWords Go.Proofs.YtjnkcgddalbojaaDoorW.PrintLast Go.Proofs.YtjnkcgddalbojaaDoorW.PrintMore
open Go.Proofs.YtjnkcgddalbojaaDoorH
attribute [local go_sem] max2_int min2_int max_two min_two max_three min_three max_four min_four   -- for this text's walks alone
set_option linter.unusedVariables false
set_option linter.unusedSimpArgs false

/-! ### spec_TieStands: function 46 -/
def spec_TieStands.f (k : Nat) (a0 : ByteArray) : Option (ByteArray × Bool) := (spec_tnTie.f).bind fun bt456 => ((spec_tnIs.f k bt456.1 bt456.2 a0).bind fun t458 => (if t458 = true then ((spec_tnTie.f).bind fun bt459 => ((spec_tnPlay.f k bt459.1 bt459.2 a0 0).bind fun bt461 => ((spec_tnTieStands.f k bt461.1 bt461.2.1 bt461.2.2.2).bind fun t465 => (some (t465, true))))) else (some ((⟨#[]⟩ : ByteArray), false))))
theorem spec_TieStands.mono : ∀ a0 k, LeO (spec_TieStands.f k a0) (spec_TieStands.f (k + 1) a0) := by
  intro a0 k
  unfold spec_TieStands.f
  repeat' first
      | (with_reducible exact spec_tnIs.mono _ _ _ _)
      | (with_reducible exact spec_tnPlay.mono _ _ _ _ _)
      | (with_reducible exact spec_tnTieStands.mono _ _ _ _)
      | (with_reducible exact LeO.refl _)
      | (with_reducible exact LeO.none _)
      | (with_reducible refine LeO.ite ?_ ?_)
      | (with_reducible refine LeO.bind ?_ (fun _ => ?_))
      | exact spec_tnIs.mono _ _ _ _
      | exact spec_tnPlay.mono _ _ _ _ _
      | exact spec_tnTieStands.mono _ _ _ _
      | exact LeO.none _
      | refine LeO.ite ?_ ?_
      | refine LeO.bind ?_ (fun _ => ?_)
set_option maxHeartbeats 8000000 in
set_option maxRecDepth 100000 in
theorem spec_TieStands.calls (k : Nat) (a0 : ByteArray) (r1 : ByteArray) (r2 : Bool) (w : World) (h : spec_TieStands.f k a0 = some (r1, r2)) :
    Calls Tryd.prog 46 #[.string a0] w fun e w' => e = .returned (.tuple #[.string r1, .bool r2]) ∧ Below w.heap.size w w' := by
  have HB := Aside0.mk (Below.refl w.heap.size w)
  have H : ((spec_tnTie.f).bind fun bt456 => ((spec_tnIs.f k bt456.1 bt456.2 a0).bind fun t458 => (if t458 = true then ((spec_tnTie.f).bind fun bt459 => ((spec_tnPlay.f k bt459.1 bt459.2 a0 0).bind fun bt461 => ((spec_tnTieStands.f k bt461.1 bt461.2.1 bt461.2.2.2).bind fun t465 => (some (t465, true))))) else (some ((⟨#[]⟩ : ByteArray), false))))) = some (r1, r2) := h
  clear h
  replace H := Option.bind_eq_some_iff.mp H
  obtain ⟨⟨t456, t457⟩, A20, H⟩ := H
  replace H : ((spec_tnIs.f k t456 t457 a0).bind fun t458 => (if t458 = true then ((spec_tnTie.f).bind fun bt459 => ((spec_tnPlay.f k bt459.1 bt459.2 a0 0).bind fun bt461 => ((spec_tnTieStands.f k bt461.1 bt461.2.1 bt461.2.2.2).bind fun t465 => (some (t465, true))))) else (some ((⟨#[]⟩ : ByteArray), false)))) = some (r1, r2) := H
  have A2 := Aside0.mk A20
  clear A20
  replace H := Option.bind_eq_some_iff.mp H
  obtain ⟨t458, A30, H⟩ := H
  replace H : (if t458 = true then ((spec_tnTie.f).bind fun bt459 => ((spec_tnPlay.f k bt459.1 bt459.2 a0 0).bind fun bt461 => ((spec_tnTieStands.f k bt461.1 bt461.2.1 bt461.2.2.2).bind fun t465 => (some (t465, true))))) else (some ((⟨#[]⟩ : ByteArray), false))) = some (r1, r2) := H
  have A3 := Aside0.mk A30
  clear A30
  by_cases c4 : t458 = true
  · subst c4
    have H1 : ((spec_tnTie.f).bind fun bt459 => ((spec_tnPlay.f k bt459.1 bt459.2 a0 0).bind fun bt461 => ((spec_tnTieStands.f k bt461.1 bt461.2.1 bt461.2.2.2).bind fun t465 => (some (t465, true))))) = some (r1, r2) := by rw [if_pos rfl] at H; exact H
    clear H
    have H := H1
    clear H1
    replace H := Option.bind_eq_some_iff.mp H
    obtain ⟨⟨t459, t460⟩, A50, H⟩ := H
    replace H : ((spec_tnPlay.f k t459 t460 a0 0).bind fun bt461 => ((spec_tnTieStands.f k bt461.1 bt461.2.1 bt461.2.2.2).bind fun t465 => (some (t465, true)))) = some (r1, r2) := H
    have A5 := Aside0.mk A50
    clear A50
    replace H := Option.bind_eq_some_iff.mp H
    obtain ⟨⟨t461, t462, t463, t464⟩, A60, H⟩ := H
    replace H : ((spec_tnTieStands.f k t461 t462 t464).bind fun t465 => (some (t465, true))) = some (r1, r2) := H
    have A6 := Aside0.mk A60
    clear A60
    replace H := Option.bind_eq_some_iff.mp H
    obtain ⟨t465, A70, H⟩ := H
    replace H : (some (t465, true)) = some (r1, r2) := H
    have A7 := Aside0.mk A70
    clear A70
    simp only [Option.some.injEq, Prod.mk.injEq] at H
    obtain ⟨rfl, rfl⟩ := H
    go_enter Tryd.func46, Tryd.ntmps46
    go_wp2_with (first | ((with_reducible refine gate_callee (f := 73) rfl ?_); refine goesL_ (some 8) rfl rfl Tryd.func73 (by kernel_rfl) rfl #[] rfl (by (try simp only [List.map_toArray, List.map_cons, List.map_nil]); first | done | rfl | (simp only [List.length_drop, List.length_take]; rfl)) ?_; (with_reducible refine (spec_tnTie.calls  t456 t457 _ A2.out).mono ?_); rintro e w8 ⟨rfl, hb⟩; refine ⟨_, rfl, ?_⟩; have n0_ := Aside0.mk (below_step (by repeat (first | (with_reducible first | exact HB.out | apply below_alloc | apply pw_below_drewN | apply below_drew1) | exact HB.out)) hb); clear HB; have HB := n0_; clear n0_; (try clear hb); (try clear hb2); (try clear hk); (try clear hi)) | ((with_reducible refine gate_callee (f := 54) rfl ?_); refine goesL_ (some 10) rfl rfl Tryd.func54 (by kernel_rfl) rfl #[.agg #[.int .i64 t456, .int .i64 t457], .string a0] rfl (by (try simp only [List.map_toArray, List.map_cons, List.map_nil]); first | done | rfl | (simp only [List.length_drop, List.length_take]; rfl)) ?_; (with_reducible refine (spec_tnIs.calls k t456 t457 a0 true _ A3.out).mono ?_); rintro e w9 ⟨rfl, hb⟩; refine ⟨_, rfl, ?_⟩; have n0_ := Aside0.mk (below_step (by repeat (first | (with_reducible first | exact HB.out | apply below_alloc | apply pw_below_drewN | apply below_drew1) | exact HB.out)) hb); clear HB; have HB := n0_; clear n0_; (try clear hb); (try clear hb2); (try clear hk); (try clear hi)) | ((with_reducible refine gate_callee (f := 73) rfl ?_); refine goesL_ (some 13) rfl rfl Tryd.func73 (by kernel_rfl) rfl #[] rfl (by (try simp only [List.map_toArray, List.map_cons, List.map_nil]); first | done | rfl | (simp only [List.length_drop, List.length_take]; rfl)) ?_; (with_reducible refine (spec_tnTie.calls  t459 t460 _ A5.out).mono ?_); rintro e w10 ⟨rfl, hb⟩; refine ⟨_, rfl, ?_⟩; have n0_ := Aside0.mk (below_step (by repeat (first | (with_reducible first | exact HB.out | apply below_alloc | apply pw_below_drewN | apply below_drew1) | exact HB.out)) hb); clear HB; have HB := n0_; clear n0_; (try clear hb); (try clear hb2); (try clear hk); (try clear hi)) | ((with_reducible refine gate_callee (f := 60) rfl ?_); refine goesL_ (some 15) rfl rfl Tryd.func60 (by kernel_rfl) rfl #[.agg #[.int .i64 t459, .int .i64 t460], .string a0, .int .i64 0] rfl (by (try simp only [List.map_toArray, List.map_cons, List.map_nil]); first | done | rfl | (simp only [List.length_drop, List.length_take]; rfl)) ?_; (with_reducible refine (spec_tnPlay.calls k t459 t460 a0 0 t461 t462 t463 t464 _ A6.out).mono ?_); rintro e w11 ⟨rfl, hb⟩; refine ⟨_, rfl, ?_⟩; have n0_ := Aside0.mk (below_step (by repeat (first | (with_reducible first | exact HB.out | apply below_alloc | apply pw_below_drewN | apply below_drew1) | exact HB.out)) hb); clear HB; have HB := n0_; clear n0_; (try clear hb); (try clear hb2); (try clear hk); (try clear hi)) | ((with_reducible refine gate_callee (f := 74) rfl ?_); refine goesL_ (some 23) rfl rfl Tryd.func74 (by kernel_rfl) rfl #[.int .i64 t461, .int .i64 t462, .bool t464] rfl (by (try simp only [List.map_toArray, List.map_cons, List.map_nil]); first | done | rfl | (simp only [List.length_drop, List.length_take]; rfl)) ?_; (with_reducible refine (spec_tnTieStands.calls k t461 t462 t464 t465 _ A7.out).mono ?_); rintro e w12 ⟨rfl, hb⟩; refine ⟨_, rfl, ?_⟩; have n0_ := Aside0.mk (below_step (by repeat (first | (with_reducible first | exact HB.out | apply below_alloc | apply pw_below_drewN | apply below_drew1) | exact HB.out)) hb); clear HB; have HB := n0_; clear n0_; (try clear hb); (try clear hb2); (try clear hk); (try clear hi)))
    go_ret2
    exact ⟨by first | rfl | (simp [errW_none, errW_some] <;> rfl) | (simp [*, errW_none, errW_some] <;> rfl), by repeat (first | (with_reducible first | exact HB.out | apply below_alloc | apply pw_below_drewN | apply below_drew1) | exact HB.out)⟩
  · replace c4 := Bool.eq_false_iff.mpr c4
    subst c4
    have H1 : (some ((⟨#[]⟩ : ByteArray), false)) = some (r1, r2) := by rw [if_neg (show ¬ (false = true) by decide)] at H; exact H
    clear H
    have H := H1
    clear H1
    simp only [Option.some.injEq, Prod.mk.injEq] at H
    obtain ⟨rfl, rfl⟩ := H
    go_enter Tryd.func46, Tryd.ntmps46
    go_wp2_with (first | ((with_reducible refine gate_callee (f := 73) rfl ?_); refine goesL_ (some 8) rfl rfl Tryd.func73 (by kernel_rfl) rfl #[] rfl (by (try simp only [List.map_toArray, List.map_cons, List.map_nil]); first | done | rfl | (simp only [List.length_drop, List.length_take]; rfl)) ?_; (with_reducible refine (spec_tnTie.calls  t456 t457 _ A2.out).mono ?_); rintro e w13 ⟨rfl, hb⟩; refine ⟨_, rfl, ?_⟩; have n0_ := Aside0.mk (below_step (by repeat (first | (with_reducible first | exact HB.out | apply below_alloc | apply pw_below_drewN | apply below_drew1) | exact HB.out)) hb); clear HB; have HB := n0_; clear n0_; (try clear hb); (try clear hb2); (try clear hk); (try clear hi)) | ((with_reducible refine gate_callee (f := 54) rfl ?_); refine goesL_ (some 10) rfl rfl Tryd.func54 (by kernel_rfl) rfl #[.agg #[.int .i64 t456, .int .i64 t457], .string a0] rfl (by (try simp only [List.map_toArray, List.map_cons, List.map_nil]); first | done | rfl | (simp only [List.length_drop, List.length_take]; rfl)) ?_; (with_reducible refine (spec_tnIs.calls k t456 t457 a0 false _ A3.out).mono ?_); rintro e w14 ⟨rfl, hb⟩; refine ⟨_, rfl, ?_⟩; have n0_ := Aside0.mk (below_step (by repeat (first | (with_reducible first | exact HB.out | apply below_alloc | apply pw_below_drewN | apply below_drew1) | exact HB.out)) hb); clear HB; have HB := n0_; clear n0_; (try clear hb); (try clear hb2); (try clear hk); (try clear hi)))
    go_ret2
    exact ⟨by first | rfl | (simp [errW_none, errW_some] <;> rfl) | (simp [*, errW_none, errW_some] <;> rfl), by repeat (first | (with_reducible first | exact HB.out | apply below_alloc | apply pw_below_drewN | apply below_drew1) | exact HB.out)⟩

end Go.Proofs.YtjnkcgddalbojaaDoor.PA
-- narrow
