/- Printed by this session's drive.py (the kit's print.py with hooks): functions of the seat as plain Lean functions, and the proofs that the calls do what these say. -/
import Derived.Test.YtoaiajgbiaedfaaPAx0
import Derived.Test.YtoaiajgbiaedfaaPAx29
import Derived.Test.YtoaiajgbiaedfaaPAx1042
namespace Go.Proofs.Ytoaiajgbiaedfaa.PA
open Go.RowKit Go.Proofs.YtoaiajgbiaedfaaW.PrintWords Go.Proofs.YtoaiajgbiaedfaaW.PrintLast Go.Proofs.YtoaiajgbiaedfaaW.PrintMore
open Go.Proofs.YtoaiajgbiaedfaaH
attribute [local go_sem] max2_int min2_int max_two min_two max_three min_three max_four min_four   -- for this text's walks alone
set_option linter.unusedVariables false
set_option linter.unusedSimpArgs false

/-! ### spec_daFirst: function 74 -/
mutual
def spec_daFirst.l0 : Nat → Int → Int → List (S58) → Int → Int → Option ((List (S58)))
 | 0, _, _, _, _, _ => none
 | k + 1, x0, x1, x8, x9, x10 => if x10 < x9 then (if 0 ≤ x10 then (if x10 < (x8.length : Int) then (if x1 = 1 then (if (wrap64 (x0 - (wrap64 (((rd_T58 x8 x10).f0) * ((rd_T58 x8 x10).f1))))) = 0 then (spec_daFirst.j1 k x0 x1 (wrap64 (x0 - (wrap64 (((rd_T58 x8 x10).f0) * ((rd_T58 x8 x10).f1))))) x8 x9 x10 (((rd_T58 x8 x10).f1) == 2) ((rd_T58 x8 x10).f0) ((rd_T58 x8 x10).f1)) else (spec_daFirst.j1 k x0 x1 (wrap64 (x0 - (wrap64 (((rd_T58 x8 x10).f0) * ((rd_T58 x8 x10).f1))))) x8 x9 x10 false ((rd_T58 x8 x10).f0) ((rd_T58 x8 x10).f1))) else (spec_daFirst.j1 k x0 x1 (wrap64 (x0 - (wrap64 (((rd_T58 x8 x10).f0) * ((rd_T58 x8 x10).f1))))) x8 x9 x10 false ((rd_T58 x8 x10).f0) ((rd_T58 x8 x10).f1))) else (none)) else (none)) else (some ([] : List (S58)))
def spec_daFirst.j1 : Nat → Int → Int → Int → List (S58) → Int → Int → Bool → Int → Int → Option ((List (S58)))
 | 0, _, _, _, _, _, _, _, _, _ => none
 | k + 1, x0, x1, x7, x8, x9, x10, x31, x553000, x553001 => if x31 = true then (some (([(⟨x553000, x553001⟩ : S58)] : List (S58)))) else (if x1 > 1 then (if x7 > 0 then ((spec_daFinishes.f k x7 (wrap64 (x1 - 1))).bind fun t556 => (if t556 > 0 then ((some (([(⟨x553000, x553001⟩ : S58)] : List (S58)) : List (S58))).bind fun y557 => ((spec_daFirst.f k x7 (wrap64 (x1 - 1))).bind fun t560 => (if y557.length + t560.length < 8796093022208 then (some (y557 ++ t560)) else (none)))) else (spec_daFirst.l0 k x0 x1 x8 x9 (wrap64 (x10 + 1))))) else (spec_daFirst.l0 k x0 x1 x8 x9 (wrap64 (x10 + 1)))) else (spec_daFirst.l0 k x0 x1 x8 x9 (wrap64 (x10 + 1))))
def spec_daFirst.f : Nat → Int → Int → Option ((List (S58)))
 | 0, _, _ => none
 | k + 1, a0, a1 => (spec_daAll.f k).bind fun t548 => (spec_daFirst.l0 k a0 a1 t548 (t548.length : Int) 0)
end
theorem spec_daFirst.mono_l : ∀ k, (∀ y0 y1, LeO (spec_daFirst.f k y0 y1) (spec_daFirst.f (k + 1) y0 y1)) ∧ (∀ y0 y1 y2 y3 y4, LeO (spec_daFirst.l0 k y0 y1 y2 y3 y4) (spec_daFirst.l0 (k + 1) y0 y1 y2 y3 y4)) ∧ (∀ y0 y1 y2 y3 y4 y5 y6 y7 y8, LeO (spec_daFirst.j1 k y0 y1 y2 y3 y4 y5 y6 y7 y8) (spec_daFirst.j1 (k + 1) y0 y1 y2 y3 y4 y5 y6 y7 y8))
 | 0 => ⟨fun _ _ r h => by simp [spec_daFirst.f] at h, fun _ _ _ _ _ r h => by simp [spec_daFirst.l0] at h, fun _ _ _ _ _ _ _ _ _ r h => by simp [spec_daFirst.j1] at h⟩
 | k + 1 => by
  obtain ⟨ih0, ih1, ih2⟩ := spec_daFirst.mono_l k
  refine ⟨?_, ?_, ?_⟩
  all_goals intros
  all_goals (first | unfold spec_daFirst.f | unfold spec_daFirst.l0 | unfold spec_daFirst.j1)
  all_goals repeat' first | (with_reducible exact ih0 _ _) | (with_reducible exact ih1 _ _ _ _ _) | (with_reducible exact ih2 _ _ _ _ _ _ _ _ _) | (with_reducible exact spec_daAll.mono _) | (with_reducible exact spec_daFinishes.mono _ _ _) | (with_reducible exact LeO.refl _) | (with_reducible exact LeO.none _) | (with_reducible refine LeO.ite ?_ ?_) | (with_reducible refine LeO.bind ?_ (fun _ => ?_)) | exact ih0 _ _ | exact ih1 _ _ _ _ _ | exact ih2 _ _ _ _ _ _ _ _ _ | exact spec_daAll.mono _ | exact spec_daFinishes.mono _ _ _ | exact LeO.none _ | refine LeO.ite ?_ ?_ | refine LeO.bind ?_ (fun _ => ?_)
theorem spec_daFirst.mono : ∀ a0 a1 k, LeO (spec_daFirst.f k a0 a1) (spec_daFirst.f (k + 1) a0 a1) := by
 intro a0 a1 k
 obtain ⟨ih0, ih1, ih2⟩ := spec_daFirst.mono_l k
 exact ih0 a0 a1
def spec_daFirst.T8 : Bool × List (List Nat × List Nat) := (true, [([], []), ([0], [0]), ([], []), ([], []), ([3], [3]), ([2, 4], [2, 4]), ([1, 5, 5], [1, 5]), ([6, 6, 0, 1, 2, 3, 4, 5, 6], [6])])
def spec_daFirst.B8 : List Nat := [0, 1, 0, 0, 8, 28, 63, 127]
theorem spec_daFirst.tab8 : rtab .any (opsOf Try.f74 8) = spec_daFirst.T8 := by kernel_rfl
theorem spec_daFirst.bits8 : waitsOk spec_daFirst.T8.2 spec_daFirst.B8 = true := by kernel_rfl
set_option maxHeartbeats 8000000 in
set_option maxRecDepth 100000 in
theorem spec_daFirst.calls (k : Nat) : ∀ (a0 : Int) (a1 : Int) (r : List (S58)) (w : World) (h : spec_daFirst.f k a0 a1 = some r),
  Calls Try.prog 74 #[.int .i64 a0, .int .i64 a1] w fun e w' => ∃ v0_ : Value, e = .returned (v0_) ∧ Kd.R k58 58 w' w.heap.size (fun _ => True) v0_ r ∧ Below w.heap.size w w' := by
 induction k using Nat.strongRecOn with
 | _ k ih =>
 intro a0 a1 r w h
 cases k with
 | zero => exact absurd h (by simp [spec_daFirst.f])
 | succ k =>
 simp only [spec_daFirst.f] at h
 have hu58 := Try.underlying58
 have HB := Aside0.mk (Below.refl w.heap.size w)
 have H : ((spec_daAll.f k).bind fun t548 => (spec_daFirst.l0 k a0 a1 t548 (t548.length : Int) 0)) = some r := h
 clear h
 replace H := Option.bind_eq_some_iff.mp H
 obtain ⟨t548, A30, H⟩ := H
 replace H : (spec_daFirst.l0 k a0 a1 t548 (t548.length : Int) 0) = some r := H
 have A3 := Aside0.mk A30
 clear A30
 have H' := Aside0.mk H
 clear H
 go_enter Try.func74, Try.ntmps74
 go_wp2_with (first | ((with_reducible refine gate_callee (f := 80) rfl ?_); refine goesL_ (some 8) rfl rfl Try.func80 (by kernel_rfl) rfl #[] rfl (by (try simp only [List.map_toArray, List.map_cons, List.map_nil]); first | done | rfl | (simp only [List.length_drop, List.length_take]; rfl)) ?_; (with_reducible refine (spec_daAll.calls k  t548 _ A3.out).mono ?_); rintro e w4 ⟨v549, rfl, ho0, hb⟩; refine ⟨_, rfl, ?_⟩; have n0_ := Aside0.mk (Kd.R_lower ho0 (below_size (by repeat (first | (with_reducible first | exact HB.out | apply below_alloc | apply pw_below_drewN | apply below_drew1) | exact HB.out)))); have n1_ := Aside0.mk (below_step (by repeat (first | (with_reducible first | exact HB.out | apply below_alloc | apply pw_below_drewN | apply below_drew1) | exact HB.out)) hb); clear HB; have HO550 := n0_; have HB := n1_; clear n0_ n1_; (try clear hb); (try clear hb2); (try clear hk); (try clear hi); (try clear ho0); obtain ⟨Ao5, co5, eo5⟩ := Kd.R_slice HO550.out; subst eo5))
 go_loopg [10] k (fun kq v10 w' => ∃ (x10_1 : Int), v10 = .int .i64 x10_1 ∧ Aside0 (spec_daFirst.l0 kq a0 a1 t548 (t548.length : Int) x10_1 = some r) ∧ Aside0 (kq ≤ k) ∧ Aside0 (Kd.R k58 58 w' w.heap.size (fun _ => True) (.slice Ao5 t548.length co5) t548) ∧ Aside0 (Below w.heap.size w w'))
 case atStart => exact ⟨(0), (by first | rfl | (simp; done) | (simp [*]; done)), H', ⟨Nat.le_refl _⟩, ⟨by (with_reducible repeat (first | apply Kd.R_alloc | apply Kd.R_drewN | apply Kd.R_drew)); exact HO550.out⟩, ⟨by repeat (first | (with_reducible first | exact HB.out | apply below_alloc | apply pw_below_drewN | apply below_drew1) | exact HB.out)⟩⟩
 case round =>
  clear H'
  try clear p2
  obtain ⟨x10_1, rfl, HA, HK1, HO_8, HB⟩ := hrel
  cases gk with
  | zero => exact absurd HA.out (by simp [spec_daFirst.l0])
  | succ k1 =>
   have H := HA.out
   clear HA
   simp only [spec_daFirst.l0] at H
   by_cases c6 : x10_1 < (t548.length : Int)
   ·
    rw [if_pos c6] at H
    have c6b0 : decide (x10_1 < (t548.length : Int)) = true := decide_eq_true c6
    clear c6
    by_cases c7 : 0 ≤ x10_1
    ·
     rw [if_pos c7] at H
     have c7b0 : decide (0 ≤ x10_1) = true := decide_eq_true c7
     clear c7
     by_cases c8 : x10_1 < (t548.length : Int)
     ·
      rw [if_pos c8] at H
      have c8b0 : decide (x10_1 < (t548.length : Int)) = true := decide_eq_true c8
      clear c8
      have HC9 := Aside0.mk H
      clear H
      have p551 : 0 ≤ (x10_1 : Int) := of_decide_eq_true (by first | (with_reducible assumption) | assumption)
      have q551 : x10_1 < (t548.length : Int) := of_decide_eq_true (by first | (with_reducible assumption) | assumption)
      obtain ⟨ad551, e551, hx551_0, hx551_1⟩ := at_T58 (Kd.R_reads' HO_8.out).2.2 x10_1 p551 q551
      cases e551
      replace p551 := eq_true p551
      replace q551 := eq_true q551
      go_upto_region 5 with (first | ((with_reducible refine gate_dst (N := 6) rfl ?_); refine box_event ?hg (N := 6) ?hd (cs := #[.int .i64 0, .int .i64 0]) (t := 58) ?hr ?_; (case hd => rfl); (case hg => rfl); (case hr => first | (go_simp; done) | (go_simp; rfl)); intro gb552 hg w10 hbox hb; have n0_ := Aside0.mk (Kd.R_below (Kd.R_elderB (by (with_reducible repeat (first | apply Kd.R_alloc | apply Kd.R_drewN | apply Kd.R_drew)); exact HO_8.out) gb552 (Nat.le_of_eq hg.symm)) hb); have n1_ := Aside0.mk (below_step (by repeat (first | (with_reducible first | exact HB.out | apply below_alloc | apply pw_below_drewN | apply below_drew1) | exact HB.out)) hb); have n2_ := Aside0.mk (hbox); have n3_ := Aside0.mk ((by rw [hg]; exact (below_size (by repeat (first | (with_reducible first | exact HB.out | apply below_alloc | apply pw_below_drewN | apply below_drew1) | exact HB.out))) : w.heap.size ≤ gb552)); have n4_ := Aside0.mk ((by rw [hg]; exact (below_size (by repeat (first | (with_reducible first | exact HB.out | apply below_alloc | apply pw_below_drewN | apply below_drew1) | exact HB.out))) : w.heap.size ≤ gb552)); clear HO_8; clear HB; have HO_8 := n0_; have HB := n1_; have BK552 := n2_; have GW552 := n3_; have GE552 := n4_; clear n0_ n1_ n2_ n3_ n4_; clear hb hbox hg; have hcz11_0 : w10.cell? ⟨gb552, 0, none⟩ = some (.int .i64 0) := (blk_cell BK552.out 0).trans rfl; have hcz11_1 : w10.cell? ⟨gb552, 1, none⟩ = some (.int .i64 0) := (blk_cell BK552.out 1).trans rfl; have hfz11_0 := blk_frozen BK552.out 0; have hfz11_1 := blk_frozen BK552.out 1))
      (try simp only [Act.put, List.setIfInBounds_toArray, List.set_cons_zero, List.set_cons_succ])
      go_cut [31] (fun v31 wc => ∃ (kq : Nat) (x31_8 : Bool), v31 = .bool x31_8 ∧ Aside0 (spec_daFirst.j1 kq a0 a1 (wrap64 (a0 - (wrap64 (((rd_T58 t548 x10_1).f0) * ((rd_T58 t548 x10_1).f1))))) t548 (t548.length : Int) x10_1 x31_8 ((rd_T58 t548 x10_1).f0) ((rd_T58 t548 x10_1).f1) = some r) ∧ Aside0 (kq ≤ k1) ∧ Aside0 (Kd.R k58 58 wc w.heap.size (fun k_ => k_ ≠ gb552) (.slice (some ad551) t548.length co5) t548) ∧ Aside0 (wc.heap[gb552]? = some (.cells #[.int .i64 ((rd_T58 t548 x10_1).f0), .int .i64 ((rd_T58 t548 x10_1).f1)] 58 (0, 0))) ∧ Aside0 (Below w.heap.size w wc))
      case first =>
       have H := HC9.out
       clear HC9
       by_cases c12 : a1 = 1
       ·
        rw [if_pos c12] at H
        have c12b0 : (a1 == 1) = true := beq_iff_eq.mpr c12
        have c12b1 : (a1 != 1) = false := bne_eq_false_iff_eq.mpr c12
        clear c12
        (first | rw [c12b0] | (simp only [i64_w, i32_w]; rw [c12b0]) | skip)
        by_cases c13 : (wrap64 (a0 - (wrap64 (((rd_T58 t548 x10_1).f0) * ((rd_T58 t548 x10_1).f1))))) = 0
        ·
         rw [if_pos c13] at H
         have c13b0 : ((wrap64 (a0 - (wrap64 (((rd_T58 t548 x10_1).f0) * ((rd_T58 t548 x10_1).f1))))) == 0) = true := beq_iff_eq.mpr c13
         have c13b1 : ((wrap64 (a0 - (wrap64 (((rd_T58 t548 x10_1).f0) * ((rd_T58 t548 x10_1).f1))))) != 0) = false := bne_eq_false_iff_eq.mpr c13
         clear c13
         have H' := Aside0.mk H
         clear H
         have hcz14_0 : w10.cell? ⟨gb552, 0, none⟩ = some (.int .i64 0) := (blk_cell BK552.out 0).trans rfl
         have hcz14_1 : w10.cell? ⟨gb552, 1, none⟩ = some (.int .i64 0) := (blk_cell BK552.out 1).trans rfl
         have hfz14_0 := blk_frozen BK552.out 0
         have hfz14_1 := blk_frozen BK552.out 1
         go_wp2
         go_meet
         case rel => exact ⟨_, ((((rd_T58 t548 x10_1).f1) == 2)), (by first | rfl | (simp; done) | (simp [*]; done)), H', ⟨by have := HK1.out; first | omega | exact Nat.le_refl _⟩, ⟨by (with_reducible repeat (first | apply Kd.R_alloc | apply Kd.R_drewN | apply Kd.R_drew)); exact Kd.R_mono (Kd.R_far (p := ⟨gb552, 1, none⟩) (Kd.R_far (p := ⟨gb552, 0, none⟩) (Kd.R_mono HO_8.out (fun k_ hk => (⟨hk, hk.2⟩ : _ ∧ k_ ≠ gb552))) (fun _ hk => hk.2) (.int .i64 ((rd_T58 t548 x10_1).f0))) (fun _ hk => hk.2) (.int .i64 ((rd_T58 t548 x10_1).f1))) (fun _ hk => hk.1.2)⟩, ⟨by (with_reducible repeat (first | refine blk_drewN ?_ _ | refine blk_drew ?_ | refine blk_alloc ?_ _)); refine blk_put (cs := #[.int .i64 ((rd_T58 t548 x10_1).f0), .int .i64 0]) ?_ 1 _ rfl; (with_reducible repeat (first | refine blk_drewN ?_ _ | refine blk_drew ?_ | refine blk_alloc ?_ _)); refine blk_put (cs := #[.int .i64 0, .int .i64 0]) ?_ 0 _ rfl; (with_reducible repeat (first | refine blk_drewN ?_ _ | refine blk_drew ?_ | refine blk_alloc ?_ _)); exact BK552.out⟩, ⟨by repeat (first | (with_reducible first | exact HB.out | apply below_alloc | apply pw_below_drewN | apply below_drew1 | refine below_set ?_ GE552.out) | exact HB.out)⟩⟩
        ·
         rw [if_neg c13] at H
         have c13b0 : ((wrap64 (a0 - (wrap64 (((rd_T58 t548 x10_1).f0) * ((rd_T58 t548 x10_1).f1))))) == 0) = false := beq_eq_false_iff_ne.mpr c13
         have c13b1 : ((wrap64 (a0 - (wrap64 (((rd_T58 t548 x10_1).f0) * ((rd_T58 t548 x10_1).f1))))) != 0) = true := bne_iff_ne.mpr c13
         have H' := Aside0.mk H
         clear H
         go_wp2
         go_meet
         case rel => exact ⟨_, (false), (by first | rfl | (simp; done) | (simp [*]; done)), H', ⟨by have := HK1.out; first | omega | exact Nat.le_refl _⟩, ⟨by (with_reducible repeat (first | apply Kd.R_alloc | apply Kd.R_drewN | apply Kd.R_drew)); exact Kd.R_mono (Kd.R_far (p := ⟨gb552, 1, none⟩) (Kd.R_far (p := ⟨gb552, 0, none⟩) (Kd.R_mono HO_8.out (fun k_ hk => (⟨hk, hk.2⟩ : _ ∧ k_ ≠ gb552))) (fun _ hk => hk.2) (.int .i64 ((rd_T58 t548 x10_1).f0))) (fun _ hk => hk.2) (.int .i64 ((rd_T58 t548 x10_1).f1))) (fun _ hk => hk.1.2)⟩, ⟨by (with_reducible repeat (first | refine blk_drewN ?_ _ | refine blk_drew ?_ | refine blk_alloc ?_ _)); refine blk_put (cs := #[.int .i64 ((rd_T58 t548 x10_1).f0), .int .i64 0]) ?_ 1 _ rfl; (with_reducible repeat (first | refine blk_drewN ?_ _ | refine blk_drew ?_ | refine blk_alloc ?_ _)); refine blk_put (cs := #[.int .i64 0, .int .i64 0]) ?_ 0 _ rfl; (with_reducible repeat (first | refine blk_drewN ?_ _ | refine blk_drew ?_ | refine blk_alloc ?_ _)); exact BK552.out⟩, ⟨by repeat (first | (with_reducible first | exact HB.out | apply below_alloc | apply pw_below_drewN | apply below_drew1 | refine below_set ?_ GE552.out) | exact HB.out)⟩⟩
       ·
        rw [if_neg c12] at H
        have c12b0 : (a1 == 1) = false := beq_eq_false_iff_ne.mpr c12
        have c12b1 : (a1 != 1) = true := bne_iff_ne.mpr c12
        (first | rw [c12b0] | (simp only [i64_w, i32_w]; rw [c12b0]) | skip)
        have H' := Aside0.mk H
        clear H
        go_wp2
        go_meet
        case rel => exact ⟨_, (false), (by first | rfl | (simp; done) | (simp [*]; done)), H', ⟨by have := HK1.out; first | omega | exact Nat.le_refl _⟩, ⟨by (with_reducible repeat (first | apply Kd.R_alloc | apply Kd.R_drewN | apply Kd.R_drew)); exact Kd.R_mono (Kd.R_far (p := ⟨gb552, 1, none⟩) (Kd.R_far (p := ⟨gb552, 0, none⟩) (Kd.R_mono HO_8.out (fun k_ hk => (⟨hk, hk.2⟩ : _ ∧ k_ ≠ gb552))) (fun _ hk => hk.2) (.int .i64 ((rd_T58 t548 x10_1).f0))) (fun _ hk => hk.2) (.int .i64 ((rd_T58 t548 x10_1).f1))) (fun _ hk => hk.1.2)⟩, ⟨by (with_reducible repeat (first | refine blk_drewN ?_ _ | refine blk_drew ?_ | refine blk_alloc ?_ _)); refine blk_put (cs := #[.int .i64 ((rd_T58 t548 x10_1).f0), .int .i64 0]) ?_ 1 _ rfl; (with_reducible repeat (first | refine blk_drewN ?_ _ | refine blk_drew ?_ | refine blk_alloc ?_ _)); refine blk_put (cs := #[.int .i64 0, .int .i64 0]) ?_ 0 _ rfl; (with_reducible repeat (first | refine blk_drewN ?_ _ | refine blk_drew ?_ | refine blk_alloc ?_ _)); exact BK552.out⟩, ⟨by repeat (first | (with_reducible first | exact HB.out | apply below_alloc | apply pw_below_drewN | apply below_drew1 | refine below_set ?_ GE552.out) | exact HB.out)⟩⟩
      case rest =>
       clear HC9
       try clear c1
       try clear p2
       try clear p5
       try clear q5
       try clear hx5
       try clear c6
       try clear c6b0
       try clear p6
       try clear c7
       try clear c7b0
       try clear c8
       try clear c8b0
       try clear c12
       try clear c12b0
       try clear c12b1
       try clear c13
       try clear c13b0
       try clear c13b1
       try clear hcz11_0
       try clear hcz11_1
       try clear hcz14_0
       try clear hcz14_1
       try clear hfz11_0
       try clear hfz11_1
       try clear hfz14_0
       try clear hfz14_1
       try clear hx551_0
       try clear hx551_1
       try clear p2
       try clear p551
       try clear q551
       obtain ⟨kq, x31_8, rfl, HA, HJ8, HO_8, BK552, HB⟩ := hcut
       cases kq with
       | zero => exact absurd HA.out (by simp [spec_daFirst.j1])
       | succ kj8 =>
        have H := HA.out
        clear HA
        simp only [spec_daFirst.j1] at H
        by_cases c15 : x31_8 = true
        ·
         subst c15
         have H1 : (some (([(⟨((rd_T58 t548 x10_1).f0), ((rd_T58 t548 x10_1).f1)⟩ : S58)] : List (S58)))) = some r := by rw [if_pos rfl] at H; exact H
         clear H
         have H := H1
         clear H1
         obtain ⟨y553, hy553⟩ : ∃ y_ : List (S58), y_ = (([(⟨((rd_T58 t548 x10_1).f0), ((rd_T58 t548 x10_1).f1)⟩ : S58)] : List (S58))) := ⟨_, rfl⟩
         replace H : (some y553) = some r := by first | (rw [hy553]; with_reducible exact H) | (have H2_ := (Option.bind_some _ _).symm.trans H; rw [hy553]; with_reducible exact H2_) | (have H2_ := (Option.bind_some _ _).symm.trans H; with_reducible exact H2_) | with_reducible exact H | (rw [hy553]; exact H) | exact H
         have Ny553 := Aside0.mk hy553
         clear hy553
         obtain rfl := Option.some.inj H
         have hcz16_0 : wc.cell? ⟨gb552, 0, none⟩ = some (.int .i64 ((rd_T58 t548 x10_1).f0)) := (blk_cell BK552.out 0).trans rfl
         have hcz16_1 : wc.cell? ⟨gb552, 1, none⟩ = some (.int .i64 ((rd_T58 t548 x10_1).f1)) := (blk_cell BK552.out 1).trans rfl
         have hfz16_0 := blk_frozen BK552.out 0
         have hfz16_1 := blk_frozen BK552.out 1
         go_wp2_with (first | ((with_reducible refine gate_dst (N := 33) rfl ?_); refine Kd.R_lit k58 _ 58 ?hg (N := 33) ?hd (xs := ([(⟨((rd_T58 t548 x10_1).f0), ((rd_T58 t548 x10_1).f1)⟩ : S58)] : List (S58))) (inner := [.int .i64 ((rd_T58 t548 x10_1).f0), .int .i64 ((rd_T58 t548 x10_1).f1)]) (ok := fun _ => True) (okp := fun _ => True) ?hr ?hp (fun _ hk => hk) trivial (Below.refl _ _) (Nat.le_refl _) (by simp) ?_; (case hd => rfl); (case hg => rfl); (case hr => first | (go_simp; done) | (go_simp; rfl)); (case hp => exact (Reps.c2 (show Kd.M k58 _ _ _ (⟨((rd_T58 t548 x10_1).f0), ((rd_T58 t548 x10_1).f1)⟩ : S58) [.int .i64 ((rd_T58 t548 x10_1).f0), .int .i64 ((rd_T58 t548 x10_1).f1)] from (k58_mkM _ _ _ (⟨((rd_T58 t548 x10_1).f0), ((rd_T58 t548 x10_1).f1)⟩ : S58) )) (Reps.none _ _))); intro v554 w17 ho18 hb hg_ hnew_; clear hg_ hnew_; (first | rw [← Ny553.out] at ho18 | (simp only [Int.reduceToNat] at ho18; rw [← Ny553.out] at ho18)); have n0_ := Aside0.mk (Kd.R_elder' (by (with_reducible repeat (first | apply Kd.R_alloc | apply Kd.R_drewN | apply Kd.R_drew)); exact HO_8.out) (Kd.R_base ho18) hb); have n1_ := Aside0.mk (Kd.R_lower (Kd.R_newB (Kd.R_new' ho18 (Kd.R_lt (by (with_reducible repeat (first | apply Kd.R_alloc | apply Kd.R_drewN | apply Kd.R_drew)); exact HO_8.out))) (g := gb552) (o := .cells #[.int .i64 ((rd_T58 t548 x10_1).f0), .int .i64 ((rd_T58 t548 x10_1).f1)] 58 (0, 0)) (by (with_reducible repeat (first | refine blk_drewN ?_ _ | refine blk_drew ?_ | refine blk_alloc ?_ _)); exact BK552.out)) (below_size (by repeat (first | (with_reducible first | exact HB.out | apply below_alloc | apply pw_below_drewN | apply below_drew1 | refine below_set ?_ GE552.out) | exact HB.out)))); have n2_ := Aside0.mk (blk_below (g := gb552) (o := .cells #[.int .i64 ((rd_T58 t548 x10_1).f0), .int .i64 ((rd_T58 t548 x10_1).f1)] 58 (0, 0)) (by (with_reducible repeat (first | refine blk_drewN ?_ _ | refine blk_drew ?_ | refine blk_alloc ?_ _)); exact BK552.out) hb); have n3_ := Aside0.mk (below_step (by repeat (first | (with_reducible first | exact HB.out | apply below_alloc | apply pw_below_drewN | apply below_drew1 | refine below_set ?_ GE552.out) | exact HB.out)) hb); clear HO_8; clear BK552; clear HB; have HO_8 := n0_; have HO555 := n1_; have BK552 := n2_; have HB := n3_; clear n0_ n1_ n2_ n3_; clear hb ho18))
         go_ret
         exact ⟨_, by first | rfl | (simp [errW_none, errW_some] <;> rfl) | (simp [*, errW_none, errW_some] <;> rfl), by (with_reducible repeat (first | apply Kd.R_alloc | apply Kd.R_drewN | apply Kd.R_drew)); exact Kd.R_mono HO555.out (fun _ hk => trivial), by repeat (first | (with_reducible first | exact HB.out | apply below_alloc | apply pw_below_drewN | apply below_drew1 | refine below_set ?_ GE552.out) | exact HB.out)⟩
        ·
         replace c15 := Bool.eq_false_iff.mpr c15
         subst c15
         have H1 : (if a1 > 1 then (if (wrap64 (a0 - (wrap64 (((rd_T58 t548 x10_1).f0) * ((rd_T58 t548 x10_1).f1))))) > 0 then ((spec_daFinishes.f kj8 (wrap64 (a0 - (wrap64 (((rd_T58 t548 x10_1).f0) * ((rd_T58 t548 x10_1).f1))))) (wrap64 (a1 - 1))).bind fun t556 => (if t556 > 0 then ((some (([(⟨((rd_T58 t548 x10_1).f0), ((rd_T58 t548 x10_1).f1)⟩ : S58)] : List (S58)) : List (S58))).bind fun y557 => ((spec_daFirst.f kj8 (wrap64 (a0 - (wrap64 (((rd_T58 t548 x10_1).f0) * ((rd_T58 t548 x10_1).f1))))) (wrap64 (a1 - 1))).bind fun t560 => (if y557.length + t560.length < 8796093022208 then (some (y557 ++ t560)) else (none)))) else (spec_daFirst.l0 kj8 a0 a1 t548 (t548.length : Int) (wrap64 (x10_1 + 1))))) else (spec_daFirst.l0 kj8 a0 a1 t548 (t548.length : Int) (wrap64 (x10_1 + 1)))) else (spec_daFirst.l0 kj8 a0 a1 t548 (t548.length : Int) (wrap64 (x10_1 + 1)))) = some r := by rw [if_neg (show ¬ (false = true) by decide)] at H; exact H
         clear H
         have H := H1
         clear H1
         by_cases c19 : a1 > 1
         ·
          rw [if_pos c19] at H
          have c19b0 : decide (1 < a1) = true := decide_eq_true c19
          clear c19
          by_cases c20 : (wrap64 (a0 - (wrap64 (((rd_T58 t548 x10_1).f0) * ((rd_T58 t548 x10_1).f1))))) > 0
          ·
           rw [if_pos c20] at H
           have c20b0 : decide (0 < (wrap64 (a0 - (wrap64 (((rd_T58 t548 x10_1).f0) * ((rd_T58 t548 x10_1).f1)))))) = true := decide_eq_true c20
           clear c20
           replace H := Option.bind_eq_some_iff.mp H
           obtain ⟨t556, A210, H⟩ := H
           replace H : (if t556 > 0 then ((some (([(⟨((rd_T58 t548 x10_1).f0), ((rd_T58 t548 x10_1).f1)⟩ : S58)] : List (S58)) : List (S58))).bind fun y557 => ((spec_daFirst.f kj8 (wrap64 (a0 - (wrap64 (((rd_T58 t548 x10_1).f0) * ((rd_T58 t548 x10_1).f1))))) (wrap64 (a1 - 1))).bind fun t560 => (if y557.length + t560.length < 8796093022208 then (some (y557 ++ t560)) else (none)))) else (spec_daFirst.l0 kj8 a0 a1 t548 (t548.length : Int) (wrap64 (x10_1 + 1)))) = some r := H
           have A21 := Aside0.mk A210
           clear A210
           by_cases c22 : t556 > 0
           ·
            rw [if_pos c22] at H
            have c22b0 : decide (0 < t556) = true := decide_eq_true c22
            clear c22
            obtain ⟨y557, hy557⟩ : ∃ y_ : List (S58), y_ = (([(⟨((rd_T58 t548 x10_1).f0), ((rd_T58 t548 x10_1).f1)⟩ : S58)] : List (S58))) := ⟨_, rfl⟩
            replace H : ((spec_daFirst.f kj8 (wrap64 (a0 - (wrap64 (((rd_T58 t548 x10_1).f0) * ((rd_T58 t548 x10_1).f1))))) (wrap64 (a1 - 1))).bind fun t560 => (if y557.length + t560.length < 8796093022208 then (some (y557 ++ t560)) else (none))) = some r := by first | (rw [hy557]; with_reducible exact H) | (have H2_ := (Option.bind_some _ _).symm.trans H; rw [hy557]; with_reducible exact H2_) | (have H2_ := (Option.bind_some _ _).symm.trans H; with_reducible exact H2_) | with_reducible exact H | (rw [hy557]; exact H) | exact H
            have Ny557 := Aside0.mk hy557
            clear hy557
            replace H := Option.bind_eq_some_iff.mp H
            obtain ⟨t560, A230, H⟩ := H
            replace H : (if y557.length + t560.length < 8796093022208 then (some (y557 ++ t560)) else (none)) = some r := H
            have A23 := Aside0.mk A230
            clear A230
            by_cases c24 : y557.length + t560.length < 8796093022208
            ·
             rw [if_pos c24] at H
             have LMc24 := Aside0.mk c24
             clear c24
             obtain ⟨y563, hy563⟩ : ∃ y_ : List (S58), y_ = (y557 ++ t560) := ⟨_, rfl⟩
             replace H : (some y563) = some r := by first | (rw [hy563]; with_reducible exact H) | (have H2_ := (Option.bind_some _ _).symm.trans H; rw [hy563]; with_reducible exact H2_) | (have H2_ := (Option.bind_some _ _).symm.trans H; with_reducible exact H2_) | with_reducible exact H | (rw [hy563]; exact H) | exact H
             have Ny563 := Aside0.mk hy563
             clear hy563
             obtain rfl := Option.some.inj H
             try go_wp2_with (first | (go_at_call 70; (with_reducible refine (spec_daFinishes.calls kj8 (wrap64 (a0 - (wrap64 (((rd_T58 t548 x10_1).f0) * ((rd_T58 t548 x10_1).f1))))) (wrap64 (a1 - 1)) t556 _ A21.out).mono ?_); rintro e w25 ⟨rfl, hb⟩; have n0_ := Aside0.mk (Kd.R_below (by (with_reducible repeat (first | apply Kd.R_alloc | apply Kd.R_drewN | apply Kd.R_drew)); exact HO_8.out) hb); have n1_ := Aside0.mk (blk_below (g := gb552) (o := .cells #[.int .i64 ((rd_T58 t548 x10_1).f0), .int .i64 ((rd_T58 t548 x10_1).f1)] 58 (0, 0)) (by (with_reducible repeat (first | refine blk_drewN ?_ _ | refine blk_drew ?_ | refine blk_alloc ?_ _)); exact BK552.out) hb); have n2_ := Aside0.mk (below_step (by repeat (first | (with_reducible first | exact HB.out | apply below_alloc | apply pw_below_drewN | apply below_drew1 | refine below_set ?_ GE552.out) | exact HB.out)) hb); clear HO_8; clear BK552; clear HB; have HO_8 := n0_; have BK552 := n1_; have HB := n2_; clear n0_ n1_ n2_; (try clear hb); (try clear hb2); (try clear hk); (try clear hi)))
             have n0_ := Aside0.mk (Kd.R_drew HO_8.out)
             have n1_ := Aside0.mk (blk_drew BK552.out)
             have n2_ := Aside0.mk (below_drew1 HB.out)
             clear HO_8
             clear BK552
             clear HB
             have HO_8 := n0_
             have BK552 := n1_
             have HB := n2_
             clear n0_ n1_ n2_
             refine start_ (n := 8) (S := fun w' => w'.cell? ⟨gb552, 0, none⟩ = some (.int .i64 ((rd_T58 t548 x10_1).f0)) ∧ w'.cell? ⟨gb552, 1, none⟩ = some (.int .i64 ((rd_T58 t548 x10_1).f1))) (ds := []) #[false, false, false, false, false, false, false, false] (by kernel_rfl) rfl rfl ⟨(blk_cell BK552.out 0).trans rfl, (blk_cell BK552.out 1).trans rfl⟩ (fun hHeld => ?_); refine with_tabW spec_daFirst.tab8 spec_daFirst.bits8 (fun HT_ HW_ => ?_)
             generalize w25.drew = w26 at HO_8 BK552 HB hHeld ⊢
             refine pure_ (i := 2) (N := some 49) (v := ?_) (a' := ?_) #[false, false, true, false, false, false, false, false] rfl rfl (any_of HT_.out (by kernel_rfl)) (fun _ _ _ h => h) (Or.inl ⟨by rfl, ?_⟩) ?_ ?_
             rotate_left
             ·
              intro w'
              go_simp
              with_reducible rfl
             rotate_left
             ·
              simp only [Act.put, sA, sB, sC, i64_w, i32_w]
              rfl
             refine pure_ (i := 3) (N := some 50) (v := ?_) (a' := ?_) #[false, false, true, true, false, false, false, false] rfl rfl (any_of HT_.out (by kernel_rfl)) (fun _ _ _ h => h) (Or.inl ⟨by rfl, ?_⟩) ?_ ?_
             rotate_left
             ·
              intro w'
              go_simp
              with_reducible rfl
             rotate_left
             ·
              simp only [Act.put, sA, sB, sC, i64_w, i32_w]
              rfl
             refine pure_ (i := 4) (N := some 51) (v := ?_) (a' := ?_) #[false, false, true, true, true, false, false, false] rfl rfl (any_of HT_.out (by kernel_rfl)) (fun _ _ _ h => h) (Or.inl ⟨by rfl, ?_⟩) ?_ ?_
             rotate_left
             ·
              intro w'
              go_simp
              with_reducible rfl
             rotate_left
             ·
              simp only [Act.put, sA, sB, sC, i64_w, i32_w]
              rfl
             refine take_ (i := 0) (N := some 47) (v := ?_) (a' := ?_) #[true, false, true, true, true, false, false, false] rfl rfl (take_ofW HT_.out HW_.out (by kernel_rfl)) (fun _ _ _ h => h) (Or.inl ⟨by rfl, ?_⟩) hHeld ?_ ?_
             rotate_left
             ·
              rintro w' ⟨s0, s1⟩
              go_simp
              with_reducible rfl
             rotate_left
             ·
              simp only [Act.put, sA, sB, sC, i64_w, i32_w]
              rfl
             refine join_ (σ := Value × Value) 2 #[true, true, true, true, true, true, false, false] (fun s_ => [(48, s_.1), (52, s_.2)]) (fun s_ w' => (w'.cell? ⟨gb552, 0, none⟩ = some (.int .i64 ((rd_T58 t548 x10_1).f0)) ∧ w'.cell? ⟨gb552, 1, none⟩ = some (.int .i64 ((rd_T58 t548 x10_1).f1))) ∧ (Kd.R k58 58 w' w.heap.size (fun k_ => some k_ ≠ (s_.2 : Value).ownBlock ∧ some k_ ≠ (.slice (some ad551) t548.length co5 : Value).ownBlock ∧ k_ ≠ gb552) s_.1 y557) ∧ (Kd.R k58 58 w' w.heap.size (fun k_ => some k_ ≠ (s_.1 : Value).ownBlock ∧ some k_ ≠ (.slice (some ad551) t548.length co5 : Value).ownBlock ∧ k_ ≠ gb552) s_.2 t560) ∧ (Kd.R k58 58 w' w.heap.size (fun k_ => some k_ ≠ (s_.1 : Value).ownBlock ∧ some k_ ≠ (s_.2 : Value).ownBlock ∧ k_ ≠ gb552) (.slice (some ad551) t548.length co5) t548) ∧ (w'.heap[gb552]? = some (.cells #[.int .i64 ((rd_T58 t548 x10_1).f0), .int .i64 ((rd_T58 t548 x10_1).f1)] 58 (0, 0))) ∧ (Below w.heap.size w w')) ?_ ?_
             rotate_left
             ·
              intro hCont
              refine two_ (i := 1) (j := 5) (Ni := some 48) (Nj := some 52) #[true, true, true, true, true, false, false, false] #[true, false, true, true, true, true, false, false] rfl rfl rfl rfl (two_of HT_.out (by kernel_rfl)) (by decide) (by decide) (fun K hK => ?_) (fun K hK => ?_)
              ·
               skip
               refine Kd.R_lit_step k58 _ 58 ?hg (N := 48) ?hd (xs := ([(⟨((rd_T58 t548 x10_1).f0), ((rd_T58 t548 x10_1).f1)⟩ : S58)] : List (S58))) (inner := [.int .i64 ((rd_T58 t548 x10_1).f0), .int .i64 ((rd_T58 t548 x10_1).f1)]) (ok := fun _ => True) (okp := fun _ => True) ?hr ?hp (fun _ hk => hk) trivial (Below.refl _ _) (Nat.le_refl _) (by simp) ?_; (case hd => rfl); (case hg => rfl); (case hr => first | (go_simp; done) | (go_simp; rfl)); (case hp => exact (Reps.c2 (show Kd.M k58 _ _ _ (⟨((rd_T58 t548 x10_1).f0), ((rd_T58 t548 x10_1).f1)⟩ : S58) [.int .i64 ((rd_T58 t548 x10_1).f0), .int .i64 ((rd_T58 t548 x10_1).f1)] from (k58_mkM _ _ _ (⟨((rd_T58 t548 x10_1).f0), ((rd_T58 t548 x10_1).f1)⟩ : S58) )) (Reps.none _ _)))
               intro v558 w27 ho28 hb hg_ hnew_
               clear hg_ hnew_
               (first | rw [← Ny557.out] at ho28 | (simp only [Int.reduceToNat] at ho28; rw [← Ny557.out] at ho28))
               have n0_ := Aside0.mk (Kd.R_elder' (by (with_reducible repeat (first | apply Kd.R_alloc | apply Kd.R_drewN | apply Kd.R_drew)); exact HO_8.out) (Kd.R_base ho28) hb)
               have n1_ := Aside0.mk (Kd.R_lower (Kd.R_newB (Kd.R_new' ho28 (Kd.R_lt (by (with_reducible repeat (first | apply Kd.R_alloc | apply Kd.R_drewN | apply Kd.R_drew)); exact HO_8.out))) (g := gb552) (o := .cells #[.int .i64 ((rd_T58 t548 x10_1).f0), .int .i64 ((rd_T58 t548 x10_1).f1)] 58 (0, 0)) (by (with_reducible repeat (first | refine blk_drewN ?_ _ | refine blk_drew ?_ | refine blk_alloc ?_ _)); exact BK552.out)) (below_size (by repeat (first | (with_reducible first | exact HB.out | apply below_alloc | apply pw_below_drewN | apply below_drew1 | refine below_set ?_ GE552.out) | exact HB.out))))
               have n2_ := Aside0.mk (blk_below (g := gb552) (o := .cells #[.int .i64 ((rd_T58 t548 x10_1).f0), .int .i64 ((rd_T58 t548 x10_1).f1)] 58 (0, 0)) (by (with_reducible repeat (first | refine blk_drewN ?_ _ | refine blk_drew ?_ | refine blk_alloc ?_ _)); exact BK552.out) hb)
               have n3_ := Aside0.mk (below_step (by repeat (first | (with_reducible first | exact HB.out | apply below_alloc | apply pw_below_drewN | apply below_drew1 | refine below_set ?_ GE552.out) | exact HB.out)) hb)
               clear HO_8
               clear BK552
               clear HB
               have HO_8 := n0_
               have HO559 := n1_
               have BK552 := n2_
               have HB := n3_
               clear n0_ n1_ n2_ n3_
               clear hb ho28
               refine hK.out _ _ ⟨(blk_cell BK552.out 0).trans rfl, (blk_cell BK552.out 1).trans rfl⟩ (fun hHeld => ?_)
               clear hK K
               refine norm_ (a' := ?_) ?_ ?_
               rotate_left
               ·
                show Act.put _ (some 48) _ = _
                simp only [Act.put, sA, sB, sC, i64_w, i32_w]
                rfl
               refine one_ (i := 5) (N := some 52) #[true, true, true, true, true, true, false, false] rfl rfl (one_of HT_.out (by kernel_rfl)) (by decide) (fun K hK => ?_)
               refine goes_ Try.func74 (by kernel_rfl) rfl #[.int .i64 (wrap64 (a0 - (wrap64 (((rd_T58 t548 x10_1).f0) * ((rd_T58 t548 x10_1).f1))))), .int .i64 (wrap64 (a1 - 1))] (by rfl) rfl rfl (by (try simp only [List.map_toArray, List.map_cons, List.map_nil]); first | done | rfl | (simp only [List.length_drop, List.length_take]; rfl)) ?_
               with_reducible refine (ih kj8 (by have := HK1.out; have := HJ8.out; omega) (wrap64 (a0 - (wrap64 (((rd_T58 t548 x10_1).f0) * ((rd_T58 t548 x10_1).f1))))) (wrap64 (a1 - 1)) t560 _ A23.out).mono ?_
               rintro e w29 ⟨v561, rfl, ho0, hb⟩
               refine ⟨_, rfl, ?_⟩
               have n0_ := Aside0.mk (Kd.R_elder' (by (with_reducible repeat (first | apply Kd.R_alloc | apply Kd.R_drewN | apply Kd.R_drew)); exact HO_8.out) (Kd.R_base ho0) hb)
               have n1_ := Aside0.mk (Kd.R_elder' (by (with_reducible repeat (first | apply Kd.R_alloc | apply Kd.R_drewN | apply Kd.R_drew)); exact HO559.out) (Kd.R_base ho0) hb)
               have n2_ := Aside0.mk (Kd.R_lower (Kd.R_newB (Kd.R_new' (Kd.R_new' ho0 (Kd.R_lt (by (with_reducible repeat (first | apply Kd.R_alloc | apply Kd.R_drewN | apply Kd.R_drew)); exact HO_8.out))) (Kd.R_lt (by (with_reducible repeat (first | apply Kd.R_alloc | apply Kd.R_drewN | apply Kd.R_drew)); exact HO559.out))) (g := gb552) (o := .cells #[.int .i64 ((rd_T58 t548 x10_1).f0), .int .i64 ((rd_T58 t548 x10_1).f1)] 58 (0, 0)) (by (with_reducible repeat (first | refine blk_drewN ?_ _ | refine blk_drew ?_ | refine blk_alloc ?_ _)); exact BK552.out)) (below_size (by repeat (first | (with_reducible first | exact HB.out | apply below_alloc | apply pw_below_drewN | apply below_drew1 | refine below_set ?_ GE552.out) | exact HB.out))))
               have n3_ := Aside0.mk (blk_below (g := gb552) (o := .cells #[.int .i64 ((rd_T58 t548 x10_1).f0), .int .i64 ((rd_T58 t548 x10_1).f1)] 58 (0, 0)) (by (with_reducible repeat (first | refine blk_drewN ?_ _ | refine blk_drew ?_ | refine blk_alloc ?_ _)); exact BK552.out) hb)
               have n4_ := Aside0.mk (below_step (by repeat (first | (with_reducible first | exact HB.out | apply below_alloc | apply pw_below_drewN | apply below_drew1 | refine below_set ?_ GE552.out) | exact HB.out)) hb)
               clear HO_8
               clear HO559
               clear BK552
               clear HB
               have HO_8 := n0_
               have HO559 := n1_
               have HO562 := n2_
               have BK552 := n3_
               have HB := n4_
               clear n0_ n1_ n2_ n3_ n4_
               (try clear hb)
               (try clear hb2)
               (try clear hk)
               (try clear hi)
               (try clear ho0)
               refine hK.out _ _ ⟨(blk_cell BK552.out 0).trans rfl, (blk_cell BK552.out 1).trans rfl⟩ (fun hHeld => ?_)
               clear hK K
               refine norm_ (a' := ?_) ?_ ?_
               rotate_left
               ·
                show Act.put _ (some 52) _ = _
                simp only [Act.put, sA, sB, sC, i64_w, i32_w]
                rfl
               exact norm_ (by simp only [putAll, Act.put, List.setIfInBounds_toArray, List.set_cons_zero, List.set_cons_succ]) (hCont (v558, v561) _ ⟨hHeld, (by (with_reducible repeat (first | apply Kd.R_alloc | apply Kd.R_drewN | apply Kd.R_drew)); exact Kd.R_mono HO559.out (fun _ hk => ⟨hk.2, ⟨hk.1.1.2, hk.1.2⟩⟩)), (by (with_reducible repeat (first | apply Kd.R_alloc | apply Kd.R_drewN | apply Kd.R_drew)); exact Kd.R_mono HO562.out (fun _ hk => ⟨hk.1.2, ⟨hk.1.1.2, hk.2⟩⟩)), (by (with_reducible repeat (first | apply Kd.R_alloc | apply Kd.R_drewN | apply Kd.R_drew)); exact Kd.R_mono HO_8.out (fun _ hk => ⟨hk.1.2, ⟨hk.2, hk.1.1⟩⟩)), (by (with_reducible repeat (first | refine blk_drewN ?_ _ | refine blk_drew ?_ | refine blk_alloc ?_ _)); exact BK552.out), (by repeat (first | (with_reducible first | exact HB.out | apply below_alloc | apply pw_below_drewN | apply below_drew1 | refine below_set ?_ GE552.out) | exact HB.out))⟩)
              ·
               skip
               refine goes_ Try.func74 (by kernel_rfl) rfl #[.int .i64 (wrap64 (a0 - (wrap64 (((rd_T58 t548 x10_1).f0) * ((rd_T58 t548 x10_1).f1))))), .int .i64 (wrap64 (a1 - 1))] (by rfl) rfl rfl (by (try simp only [List.map_toArray, List.map_cons, List.map_nil]); first | done | rfl | (simp only [List.length_drop, List.length_take]; rfl)) ?_
               with_reducible refine (ih kj8 (by have := HK1.out; have := HJ8.out; omega) (wrap64 (a0 - (wrap64 (((rd_T58 t548 x10_1).f0) * ((rd_T58 t548 x10_1).f1))))) (wrap64 (a1 - 1)) t560 _ A23.out).mono ?_
               rintro e w27 ⟨v561, rfl, ho0, hb⟩
               refine ⟨_, rfl, ?_⟩
               have n0_ := Aside0.mk (Kd.R_elder' (by (with_reducible repeat (first | apply Kd.R_alloc | apply Kd.R_drewN | apply Kd.R_drew)); exact HO_8.out) (Kd.R_base ho0) hb)
               have n1_ := Aside0.mk (Kd.R_lower (Kd.R_newB (Kd.R_new' ho0 (Kd.R_lt (by (with_reducible repeat (first | apply Kd.R_alloc | apply Kd.R_drewN | apply Kd.R_drew)); exact HO_8.out))) (g := gb552) (o := .cells #[.int .i64 ((rd_T58 t548 x10_1).f0), .int .i64 ((rd_T58 t548 x10_1).f1)] 58 (0, 0)) (by (with_reducible repeat (first | refine blk_drewN ?_ _ | refine blk_drew ?_ | refine blk_alloc ?_ _)); exact BK552.out)) (below_size (by repeat (first | (with_reducible first | exact HB.out | apply below_alloc | apply pw_below_drewN | apply below_drew1 | refine below_set ?_ GE552.out) | exact HB.out))))
               have n2_ := Aside0.mk (blk_below (g := gb552) (o := .cells #[.int .i64 ((rd_T58 t548 x10_1).f0), .int .i64 ((rd_T58 t548 x10_1).f1)] 58 (0, 0)) (by (with_reducible repeat (first | refine blk_drewN ?_ _ | refine blk_drew ?_ | refine blk_alloc ?_ _)); exact BK552.out) hb)
               have n3_ := Aside0.mk (below_step (by repeat (first | (with_reducible first | exact HB.out | apply below_alloc | apply pw_below_drewN | apply below_drew1 | refine below_set ?_ GE552.out) | exact HB.out)) hb)
               clear HO_8
               clear BK552
               clear HB
               have HO_8 := n0_
               have HO562 := n1_
               have BK552 := n2_
               have HB := n3_
               clear n0_ n1_ n2_ n3_
               (try clear hb)
               (try clear hb2)
               (try clear hk)
               (try clear hi)
               (try clear ho0)
               refine hK.out _ _ ⟨(blk_cell BK552.out 0).trans rfl, (blk_cell BK552.out 1).trans rfl⟩ (fun hHeld => ?_)
               clear hK K
               refine norm_ (a' := ?_) ?_ ?_
               rotate_left
               ·
                show Act.put _ (some 52) _ = _
                simp only [Act.put, sA, sB, sC, i64_w, i32_w]
                rfl
               refine one_ (i := 1) (N := some 48) #[true, true, true, true, true, true, false, false] rfl rfl (one_of HT_.out (by kernel_rfl)) (by decide) (fun K hK => ?_)
               refine Kd.R_lit_step k58 _ 58 ?hg (N := 48) ?hd (xs := ([(⟨((rd_T58 t548 x10_1).f0), ((rd_T58 t548 x10_1).f1)⟩ : S58)] : List (S58))) (inner := [.int .i64 ((rd_T58 t548 x10_1).f0), .int .i64 ((rd_T58 t548 x10_1).f1)]) (ok := fun _ => True) (okp := fun _ => True) ?hr ?hp (fun _ hk => hk) trivial (Below.refl _ _) (Nat.le_refl _) (by simp) ?_; (case hd => rfl); (case hg => rfl); (case hr => first | (go_simp; done) | (go_simp; rfl)); (case hp => exact (Reps.c2 (show Kd.M k58 _ _ _ (⟨((rd_T58 t548 x10_1).f0), ((rd_T58 t548 x10_1).f1)⟩ : S58) [.int .i64 ((rd_T58 t548 x10_1).f0), .int .i64 ((rd_T58 t548 x10_1).f1)] from (k58_mkM _ _ _ (⟨((rd_T58 t548 x10_1).f0), ((rd_T58 t548 x10_1).f1)⟩ : S58) )) (Reps.none _ _)))
               intro v558 w28 ho29 hb hg_ hnew_
               clear hg_ hnew_
               (first | rw [← Ny557.out] at ho29 | (simp only [Int.reduceToNat] at ho29; rw [← Ny557.out] at ho29))
               have n0_ := Aside0.mk (Kd.R_elder' (by (with_reducible repeat (first | apply Kd.R_alloc | apply Kd.R_drewN | apply Kd.R_drew)); exact HO_8.out) (Kd.R_base ho29) hb)
               have n1_ := Aside0.mk (Kd.R_elder' (by (with_reducible repeat (first | apply Kd.R_alloc | apply Kd.R_drewN | apply Kd.R_drew)); exact HO562.out) (Kd.R_base ho29) hb)
               have n2_ := Aside0.mk (Kd.R_lower (Kd.R_newB (Kd.R_new' (Kd.R_new' ho29 (Kd.R_lt (by (with_reducible repeat (first | apply Kd.R_alloc | apply Kd.R_drewN | apply Kd.R_drew)); exact HO_8.out))) (Kd.R_lt (by (with_reducible repeat (first | apply Kd.R_alloc | apply Kd.R_drewN | apply Kd.R_drew)); exact HO562.out))) (g := gb552) (o := .cells #[.int .i64 ((rd_T58 t548 x10_1).f0), .int .i64 ((rd_T58 t548 x10_1).f1)] 58 (0, 0)) (by (with_reducible repeat (first | refine blk_drewN ?_ _ | refine blk_drew ?_ | refine blk_alloc ?_ _)); exact BK552.out)) (below_size (by repeat (first | (with_reducible first | exact HB.out | apply below_alloc | apply pw_below_drewN | apply below_drew1 | refine below_set ?_ GE552.out) | exact HB.out))))
               have n3_ := Aside0.mk (blk_below (g := gb552) (o := .cells #[.int .i64 ((rd_T58 t548 x10_1).f0), .int .i64 ((rd_T58 t548 x10_1).f1)] 58 (0, 0)) (by (with_reducible repeat (first | refine blk_drewN ?_ _ | refine blk_drew ?_ | refine blk_alloc ?_ _)); exact BK552.out) hb)
               have n4_ := Aside0.mk (below_step (by repeat (first | (with_reducible first | exact HB.out | apply below_alloc | apply pw_below_drewN | apply below_drew1 | refine below_set ?_ GE552.out) | exact HB.out)) hb)
               clear HO_8
               clear HO562
               clear BK552
               clear HB
               have HO_8 := n0_
               have HO562 := n1_
               have HO559 := n2_
               have BK552 := n3_
               have HB := n4_
               clear n0_ n1_ n2_ n3_ n4_
               clear hb ho29
               refine hK.out _ _ ⟨(blk_cell BK552.out 0).trans rfl, (blk_cell BK552.out 1).trans rfl⟩ (fun hHeld => ?_)
               clear hK K
               refine norm_ (a' := ?_) ?_ ?_
               rotate_left
               ·
                show Act.put _ (some 48) _ = _
                simp only [Act.put, sA, sB, sC, i64_w, i32_w]
                rfl
               exact norm_ (by simp only [putAll, Act.put, List.setIfInBounds_toArray, List.set_cons_zero, List.set_cons_succ]) (hCont (v558, v561) _ ⟨hHeld, (by (with_reducible repeat (first | apply Kd.R_alloc | apply Kd.R_drewN | apply Kd.R_drew)); exact Kd.R_mono HO559.out (fun _ hk => ⟨hk.1.2, ⟨hk.1.1.2, hk.2⟩⟩)), (by (with_reducible repeat (first | apply Kd.R_alloc | apply Kd.R_drewN | apply Kd.R_drew)); exact Kd.R_mono HO562.out (fun _ hk => ⟨hk.2, ⟨hk.1.1.2, hk.1.2⟩⟩)), (by (with_reducible repeat (first | apply Kd.R_alloc | apply Kd.R_drewN | apply Kd.R_drew)); exact Kd.R_mono HO_8.out (fun _ hk => ⟨hk.2, ⟨hk.1.2, hk.1.1⟩⟩)), (by (with_reducible repeat (first | refine blk_drewN ?_ _ | refine blk_drew ?_ | refine blk_alloc ?_ _)); exact BK552.out), (by repeat (first | (with_reducible first | exact HB.out | apply below_alloc | apply pw_below_drewN | apply below_drew1 | refine below_set ?_ GE552.out) | exact HB.out))⟩)
             rintro ⟨v558, v561⟩ w30 ⟨hS_, h0_, h1_, h2_, h3_, h4_⟩
             have n0_ : Aside0 (Kd.R k58 58 w30 w.heap.size (fun k_ => some k_ ≠ (v561 : Value).ownBlock ∧ some k_ ≠ (.slice (some ad551) t548.length co5 : Value).ownBlock ∧ k_ ≠ gb552) v558 y557) := ⟨h0_⟩
             have n1_ : Aside0 (Kd.R k58 58 w30 w.heap.size (fun k_ => some k_ ≠ (v558 : Value).ownBlock ∧ some k_ ≠ (.slice (some ad551) t548.length co5 : Value).ownBlock ∧ k_ ≠ gb552) v561 t560) := ⟨h1_⟩
             have n2_ : Aside0 (Kd.R k58 58 w30 w.heap.size (fun k_ => some k_ ≠ (v558 : Value).ownBlock ∧ some k_ ≠ (v561 : Value).ownBlock ∧ k_ ≠ gb552) (.slice (some ad551) t548.length co5) t548) := ⟨h2_⟩
             have n3_ : Aside0 (w30.heap[gb552]? = some (.cells #[.int .i64 ((rd_T58 t548 x10_1).f0), .int .i64 ((rd_T58 t548 x10_1).f1)] 58 (0, 0))) := ⟨h3_⟩
             have n4_ : Aside0 (Below w.heap.size w w30) := ⟨h4_⟩
             clear HO_8
             clear BK552
             clear HB
             clear h0_ h1_ h2_ h3_ h4_
             have HO559 := n0_
             have HO562 := n1_
             have HO_8 := n2_
             have BK552 := n3_
             have HB := n4_
             clear n0_ n1_ n2_ n3_ n4_
             have hHeld : w30.cell? ⟨gb552, 0, none⟩ = some (.int .i64 ((rd_T58 t548 x10_1).f0)) ∧ w30.cell? ⟨gb552, 1, none⟩ = some (.int .i64 ((rd_T58 t548 x10_1).f1)) := hS_
             obtain ⟨Ao32, co32, eo32⟩ := Kd.R_slice HO562.out
             (first | subst eo32 | (injection eo32 with f1_ f2_ f3_; have f4_ := f1_.symm; have f5_ := f3_.symm; clear f1_ f2_ f3_; subst f4_; subst f5_))
             refine norm_ (a' := ?_) ?_ ?_
             rotate_left
             ·
              simp only [putAll, Act.put, List.setIfInBounds_toArray, List.set_cons_zero, List.set_cons_succ]
              rfl
             refine one_ (i := 6) (N := some 53) #[true, true, true, true, true, true, true, false] rfl rfl (one_of HT_.out (by kernel_rfl)) (by decide) (fun K hK => ?_)
             refine Kd.R_append_rows_step k58 (w0 := w) w.heap.size (by rfl) (.tmp 48) (.tmp 52) 26 58 (.agg #[(.int .i64 0), (.int .i64 0)]) 16 rfl Try.underlying26 info58 rfl (by decide) (by omega) v558 y557 t560 _ _ _ (fun k_ => some k_ ≠ (.slice (some ad551) t548.length co5 : Value).ownBlock ∧ some k_ ≠ (.slice Ao32 t560.length co32 : Value).ownBlock ∧ k_ ≠ gb552) (fun _ => False) rfl rfl ?aO ?aR (fun _ _ h => h) (fun _ h => h.elim) ?aF ?aB ?aS ?aL ?_
             (case aR => repeat (first | exact (Kd.R_reads' HO562.out).2.2 | (with_reducible refine Kd.C_alloc ?_ _) | (with_reducible refine Kd.C_drewN ?_ _) | (with_reducible refine Kd.C_drew ?_)))
             (case aB => exact (by repeat (first | (with_reducible first | exact HB.out | apply below_alloc | apply pw_below_drewN | apply below_drew1 | refine below_set ?_ GE552.out) | exact HB.out)))
             (case aF => exact (fun k_ hk => ⟨Kd.fresh' (Kd.R_lt (by (with_reducible repeat (first | apply Kd.R_alloc | apply Kd.R_drewN | apply Kd.R_drew)); exact HO_8.out)) k_ hk, Kd.fresh' (Kd.R_lt (by (with_reducible repeat (first | apply Kd.R_alloc | apply Kd.R_drewN | apply Kd.R_drew)); exact HO562.out)) k_ hk, Kd.freshB (g := gb552) (o := .cells #[.int .i64 ((rd_T58 t548 x10_1).f0), .int .i64 ((rd_T58 t548 x10_1).f1)] 58 (0, 0)) (by (with_reducible repeat (first | refine blk_drewN ?_ _ | refine blk_drew ?_ | refine blk_alloc ?_ _)); exact BK552.out) k_ hk⟩))
             (case aO => exact (by (with_reducible repeat (first | apply Kd.R_alloc | apply Kd.R_drewN | apply Kd.R_drew)); exact Kd.R_mono HO559.out (fun _ hk => ⟨hk.2.1, ⟨hk.1, hk.2.2⟩⟩)))
             (case aS => exact (below_size (by repeat (first | (with_reducible first | exact HB.out | apply below_alloc | apply pw_below_drewN | apply below_drew1 | refine below_set ?_ GE552.out) | exact HB.out))))
             (case aL => have := LMc24.out; omega)
             intro v564 w31 ho hb hg hat
             rw [← Ny563.out] at ho
             have n0_ := Aside0.mk (Kd.R_after (ok := (fun k_ => some k_ ≠ (.slice Ao32 t560.length co32 : Value).ownBlock ∧ k_ ≠ gb552)) (by (with_reducible repeat (first | apply Kd.R_alloc | apply Kd.R_drewN | apply Kd.R_drew)); exact Kd.R_mono HO_8.out (fun _ hk => ⟨⟨hk.2.1, hk.2.2⟩, hk.1⟩)) hg hat)
             have n1_ := Aside0.mk (blk_grown (g := gb552) (o := .cells #[.int .i64 ((rd_T58 t548 x10_1).f0), .int .i64 ((rd_T58 t548 x10_1).f1)] 58 (0, 0)) (by (with_reducible repeat (first | refine blk_drewN ?_ _ | refine blk_drew ?_ | refine blk_alloc ?_ _)); exact BK552.out) hg (Kd.R_away HO559.out (fun _ hk => hk.2.2)))
             have n2_ := Aside0.mk (Kd.R_after (ok := (fun k_ => some k_ ≠ (.slice (some ad551) t548.length co5 : Value).ownBlock ∧ k_ ≠ gb552)) (by (with_reducible repeat (first | apply Kd.R_alloc | apply Kd.R_drewN | apply Kd.R_drew)); exact Kd.R_mono HO562.out (fun _ hk => ⟨⟨hk.2.1, hk.2.2⟩, hk.1⟩)) hg hat)
             have n3_ := Aside0.mk (hb)
             have n4_ := Aside0.mk (ho)
             clear HO_8
             clear BK552
             clear HO562
             clear HB
             clear HO559
             have HO_8 := n0_
             have BK552 := n1_
             have HO562 := n2_
             have HB := n3_
             have HO565 := n4_
             clear n0_ n1_ n2_ n3_ n4_
             clear ho hb hg hat
             refine hK.out _ _ ⟨(blk_cell BK552.out 0).trans rfl, (blk_cell BK552.out 1).trans rfl⟩ (fun hHeld => ?_)
             clear hK K
             refine norm_ (a' := ?_) ?_ ?_
             rotate_left
             ·
              show Act.put _ (some 53) _ = _
              simp only [Act.put, sA, sB, sC, i64_w, i32_w]
              rfl
             refine pure_ (i := 7) (N := some 4) (v := ?_) (a' := ?_) #[true, true, true, true, true, true, true, true] rfl rfl (any_of HT_.out (by kernel_rfl)) (fun _ _ _ h => h) (Or.inl ⟨by rfl, ?_⟩) ?_ ?_
             rotate_left
             ·
              intro w'
              go_simp
              with_reducible rfl
             rotate_left
             ·
              simp only [Act.put, sA, sB, sC, i64_w, i32_w]
              rfl
             refine done_ (done_of HT_.out (by kernel_rfl)) ?_
             try go_wp2
             go_ret
             exact ⟨_, by first | rfl | (simp [errW_none, errW_some] <;> rfl) | (simp [*, errW_none, errW_some] <;> rfl), by (with_reducible repeat (first | apply Kd.R_alloc | apply Kd.R_drewN | apply Kd.R_drew)); exact Kd.R_mono HO565.out (fun _ hk => trivial), by repeat (first | (with_reducible first | exact HB.out | apply below_alloc | apply pw_below_drewN | apply below_drew1 | refine below_set ?_ GE552.out) | exact HB.out)⟩
            ·
             rw [if_neg c24] at H
             exact absurd H (by simp)
           ·
            rw [if_neg c22] at H
            have c22b0 : decide (0 < t556) = false := decide_eq_false c22
            clear c22
            have H' := Aside0.mk H
            clear H
            go_wp2_with (first | (go_at_call 70; (with_reducible refine (spec_daFinishes.calls kj8 (wrap64 (a0 - (wrap64 (((rd_T58 t548 x10_1).f0) * ((rd_T58 t548 x10_1).f1))))) (wrap64 (a1 - 1)) t556 _ A21.out).mono ?_); rintro e w33 ⟨rfl, hb⟩; have n0_ := Aside0.mk (Kd.R_below (by (with_reducible repeat (first | apply Kd.R_alloc | apply Kd.R_drewN | apply Kd.R_drew)); exact HO_8.out) hb); have n1_ := Aside0.mk (blk_below (g := gb552) (o := .cells #[.int .i64 ((rd_T58 t548 x10_1).f0), .int .i64 ((rd_T58 t548 x10_1).f1)] 58 (0, 0)) (by (with_reducible repeat (first | refine blk_drewN ?_ _ | refine blk_drew ?_ | refine blk_alloc ?_ _)); exact BK552.out) hb); have n2_ := Aside0.mk (below_step (by repeat (first | (with_reducible first | exact HB.out | apply below_alloc | apply pw_below_drewN | apply below_drew1 | refine below_set ?_ GE552.out) | exact HB.out)) hb); clear HO_8; clear BK552; clear HB; have HO_8 := n0_; have BK552 := n1_; have HB := n2_; clear n0_ n1_ n2_; (try clear hb); (try clear hb2); (try clear hk); (try clear hi)))
            go_roundg kj8
            case measure => have := HK1.out; have := HJ8.out; omega
            case rel => exact ⟨(wrap64 (x10_1 + 1)), (by first | rfl | (simp; done) | (simp [*]; done)), H', ⟨by have := HK1.out; have := HJ8.out; omega⟩, ⟨by (with_reducible repeat (first | apply Kd.R_alloc | apply Kd.R_drewN | apply Kd.R_drew)); exact Kd.R_mono HO_8.out (fun _ hk => trivial)⟩, ⟨by repeat (first | (with_reducible first | exact HB.out | apply below_alloc | apply pw_below_drewN | apply below_drew1 | refine below_set ?_ GE552.out) | exact HB.out)⟩⟩
          ·
           rw [if_neg c20] at H
           have c20b0 : decide (0 < (wrap64 (a0 - (wrap64 (((rd_T58 t548 x10_1).f0) * ((rd_T58 t548 x10_1).f1)))))) = false := decide_eq_false c20
           clear c20
           have H' := Aside0.mk H
           clear H
           go_wp2
           go_roundg kj8
           case measure => have := HK1.out; have := HJ8.out; omega
           case rel => exact ⟨(wrap64 (x10_1 + 1)), (by first | rfl | (simp; done) | (simp [*]; done)), H', ⟨by have := HK1.out; have := HJ8.out; omega⟩, ⟨by (with_reducible repeat (first | apply Kd.R_alloc | apply Kd.R_drewN | apply Kd.R_drew)); exact Kd.R_mono HO_8.out (fun _ hk => trivial)⟩, ⟨by repeat (first | (with_reducible first | exact HB.out | apply below_alloc | apply pw_below_drewN | apply below_drew1 | refine below_set ?_ GE552.out) | exact HB.out)⟩⟩
         ·
          rw [if_neg c19] at H
          have c19b0 : decide (1 < a1) = false := decide_eq_false c19
          clear c19
          have H' := Aside0.mk H
          clear H
          go_wp2
          go_roundg kj8
          case measure => have := HK1.out; have := HJ8.out; omega
          case rel => exact ⟨(wrap64 (x10_1 + 1)), (by first | rfl | (simp; done) | (simp [*]; done)), H', ⟨by have := HK1.out; have := HJ8.out; omega⟩, ⟨by (with_reducible repeat (first | apply Kd.R_alloc | apply Kd.R_drewN | apply Kd.R_drew)); exact Kd.R_mono HO_8.out (fun _ hk => trivial)⟩, ⟨by repeat (first | (with_reducible first | exact HB.out | apply below_alloc | apply pw_below_drewN | apply below_drew1 | refine below_set ?_ GE552.out) | exact HB.out)⟩⟩
     ·
      rw [if_neg c8] at H
      exact absurd H (by simp)
    ·
     rw [if_neg c7] at H
     exact absurd H (by simp)
   ·
    rw [if_neg c6] at H
    have c6b0 : decide (x10_1 < (t548.length : Int)) = false := decide_eq_false c6
    clear c6
    obtain rfl := Option.some.inj H
    go_wp2
    go_ret
    exact ⟨_, by first | rfl | (simp [errW_none, errW_some] <;> rfl) | (simp [*, errW_none, errW_some] <;> rfl), by first | exact Kd.R_nil _ _ _ _ _ | exact Kd.N_nil _ _ _ _ _ | exact Kd.V_nil _ _ _ _ _ | exact Kd.Q_nil _ _ _ _ _ | exact Kd.S_nil _ _ _ _ _, by repeat (first | (with_reducible first | exact HB.out | apply below_alloc | apply pw_below_drewN | apply below_drew1) | exact HB.out)⟩

end Go.Proofs.Ytoaiajgbiaedfaa.PA
-- narrow
