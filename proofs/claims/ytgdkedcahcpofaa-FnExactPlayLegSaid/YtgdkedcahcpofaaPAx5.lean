/- Printed by this session's drive.py (the kit's print.py with hooks): functions of the seat as plain Lean functions, and the proofs that the calls do what these say. -/
import Derived.Test.YtgdkedcahcpofaaPAx0
namespace Go.Proofs.Ytgdkedcahcpofaa.PA
open Go.RowKit Go.Proofs.YtgdkedcahcpofaaW.PrintWords Go.Proofs.YtgdkedcahcpofaaW.PrintLast Go.Proofs.YtgdkedcahcpofaaW.PrintMore
open Go.Proofs.YtgdkedcahcpofaaH
attribute [local go_sem] max2_int min2_int max_two min_two max_three min_three max_four min_four   -- for this text's walks alone
set_option linter.unusedVariables false
set_option linter.unusedSimpArgs false

/-! ### spec_daVisit: function 16 -/
mutual
def spec_daVisit.l0 : Nat → Int → List (S49) → Int → List (S49) → Int → Int → Option (Int × Bool × Bool)
  | 0, _, _, _, _, _, _ => none
  | k + 1, x0, x1, x7, x12, x13, x14 => if x14 < x13 then (if 0 ≤ x14 then (if x14 < (x12.length : Int) then (if (wrap64 (x7 - (wrap64 (((rd_T49 x12 x14).f0) * ((rd_T49 x12 x14).f1))))) < 0 then (spec_daVisit.j1 k x0 x1 (wrap64 (x7 - (wrap64 (((rd_T49 x12 x14).f0) * ((rd_T49 x12 x14).f1))))) (x14 == (wrap64 ((x1.length : Int) - 1))) x12 x13 x14 true) else (if (wrap64 (x7 - (wrap64 (((rd_T49 x12 x14).f0) * ((rd_T49 x12 x14).f1))))) = 1 then (spec_daVisit.j1 k x0 x1 (wrap64 (x7 - (wrap64 (((rd_T49 x12 x14).f0) * ((rd_T49 x12 x14).f1))))) (x14 == (wrap64 ((x1.length : Int) - 1))) x12 x13 x14 true) else (if (wrap64 (x7 - (wrap64 (((rd_T49 x12 x14).f0) * ((rd_T49 x12 x14).f1))))) = 0 then (spec_daVisit.j1 k x0 x1 (wrap64 (x7 - (wrap64 (((rd_T49 x12 x14).f0) * ((rd_T49 x12 x14).f1))))) (x14 == (wrap64 ((x1.length : Int) - 1))) x12 x13 x14 (((rd_T49 x12 x14).f1) != 2)) else (spec_daVisit.j1 k x0 x1 (wrap64 (x7 - (wrap64 (((rd_T49 x12 x14).f0) * ((rd_T49 x12 x14).f1))))) (x14 == (wrap64 ((x1.length : Int) - 1))) x12 x13 x14 false)))) else (none)) else (none)) else (some (x7, false, true))
def spec_daVisit.j1 : Nat → Int → List (S49) → Int → Bool → List (S49) → Int → Int → Bool → Option (Int × Bool × Bool)
  | 0, _, _, _, _, _, _, _, _ => none
  | k + 1, x0, x1, x7, x10, x12, x13, x14, x31 => if x31 = true then (some (x0, true, x10)) else (if x7 = 0 then (some (0, false, x10)) else (spec_daVisit.l0 k x0 x1 x7 x12 x13 (wrap64 (x14 + 1))))
end
def spec_daVisit.f (k : Nat) (a0 : Int) (l1 : List (S49)) : Option (Int × Bool × Bool) := spec_daVisit.l0 k a0 l1 a0 l1 (l1.length : Int) 0
theorem spec_daVisit.mono_l : ∀ k, (∀ y0 y1 y2 y3 y4 y5, LeO (spec_daVisit.l0 k y0 y1 y2 y3 y4 y5) (spec_daVisit.l0 (k + 1) y0 y1 y2 y3 y4 y5)) ∧ (∀ y0 y1 y2 y3 y4 y5 y6 y7, LeO (spec_daVisit.j1 k y0 y1 y2 y3 y4 y5 y6 y7) (spec_daVisit.j1 (k + 1) y0 y1 y2 y3 y4 y5 y6 y7))
  | 0 => ⟨fun _ _ _ _ _ _ r h => by simp [spec_daVisit.l0] at h, fun _ _ _ _ _ _ _ _ r h => by simp [spec_daVisit.j1] at h⟩
  | k + 1 => by
    obtain ⟨ih0, ih1⟩ := spec_daVisit.mono_l k
    refine ⟨?_, ?_⟩
    · intro y0 y1 y2 y3 y4 y5
      unfold spec_daVisit.l0
      repeat' first
      | (with_reducible exact ih0 _ _ _ _ _ _)
      | (with_reducible exact ih1 _ _ _ _ _ _ _ _)
      | (with_reducible exact LeO.refl _)
      | (with_reducible exact LeO.none _)
      | (with_reducible refine LeO.ite ?_ ?_)
      | (with_reducible refine LeO.bind ?_ (fun _ => ?_))
      | exact ih0 _ _ _ _ _ _
      | exact ih1 _ _ _ _ _ _ _ _
      | exact LeO.none _
      | refine LeO.ite ?_ ?_
      | refine LeO.bind ?_ (fun _ => ?_)
    · intro y0 y1 y2 y3 y4 y5 y6 y7
      unfold spec_daVisit.j1
      repeat' first
      | (with_reducible exact ih0 _ _ _ _ _ _)
      | (with_reducible exact ih1 _ _ _ _ _ _ _ _)
      | (with_reducible exact LeO.refl _)
      | (with_reducible exact LeO.none _)
      | (with_reducible refine LeO.ite ?_ ?_)
      | (with_reducible refine LeO.bind ?_ (fun _ => ?_))
      | exact ih0 _ _ _ _ _ _
      | exact ih1 _ _ _ _ _ _ _ _
      | exact LeO.none _
      | refine LeO.ite ?_ ?_
      | refine LeO.bind ?_ (fun _ => ?_)
theorem spec_daVisit.mono : ∀ a0 a1 k, LeO (spec_daVisit.f k a0 a1) (spec_daVisit.f (k + 1) a0 a1) := by
  intro a0 a1 k
  obtain ⟨ih0, ih1⟩ := spec_daVisit.mono_l k
  unfold spec_daVisit.f
  repeat' first
      | (with_reducible exact ih0 _ _ _ _ _ _)
      | (with_reducible exact ih1 _ _ _ _ _ _ _ _)
      | (with_reducible exact LeO.refl _)
      | (with_reducible exact LeO.none _)
      | (with_reducible refine LeO.ite ?_ ?_)
      | (with_reducible refine LeO.bind ?_ (fun _ => ?_))
      | exact ih0 _ _ _ _ _ _
      | exact ih1 _ _ _ _ _ _ _ _
      | exact LeO.none _
      | refine LeO.ite ?_ ?_
      | refine LeO.bind ?_ (fun _ => ?_)
set_option maxHeartbeats 8000000 in
set_option maxRecDepth 100000 in
theorem spec_daVisit.calls (k : Nat) (a0 : Int) (A1 : Option Addr) (c1 : Nat) (l1 : List (S49)) (r1 : Int) (r2 : Bool) (r3 : Bool) (w : World) (hr1 : Kd.C k49 w A1 l1.length l1) (hc1 : l1.length ≤ c1) (h : spec_daVisit.f k a0 l1 = some (r1, r2, r3)) :
    Calls Try.prog 16 #[.int .i64 a0, .slice A1 l1.length c1] w fun e w' => e = .returned (.tuple #[.int .i64 r1, .bool r2, .bool r3]) ∧ Below w.heap.size w w' := by
  have hu49 := Try.underlying49
  have HR1 := Aside0.mk hr1
  have HC1 := Aside0.mk hc1
  clear hr1 hc1
  have HB := Aside0.mk (Below.refl w.heap.size w)
  have H : (spec_daVisit.l0 k a0 l1 a0 l1 (l1.length : Int) 0) = some (r1, r2, r3) := h
  clear h
  have H' := Aside0.mk H
  clear H
  go_enter Try.func16, Try.ntmps16
  go_wp2
  go_loopg [7, 14] k (fun kq v7 v14 w' => ∃ (x7_1 : Int) (x14_1 : Int), v7 = .int .i64 x7_1 ∧ v14 = .int .i64 x14_1 ∧ Aside0 (spec_daVisit.l0 kq a0 l1 x7_1 l1 (l1.length : Int) x14_1 = some (r1, r2, r3)) ∧ Aside0 (kq ≤ k) ∧ Aside0 (Below w.heap.size w w'))
  case atStart => exact ⟨(a0), (0), (by first | rfl | (simp; done) | (simp [*]; done)), (by first | rfl | (simp; done) | (simp [*]; done) | (simp only [bneNil, eqNil, Bool.not_not]; done) | (simp [bneNil, eqNil]; done)), H', ⟨Nat.le_refl _⟩, ⟨by repeat (first | (with_reducible first | exact HB.out | apply below_alloc | apply pw_below_drewN | apply below_drew1) | exact HB.out)⟩⟩
  case round =>
    clear H'
    try clear c1
    try clear p2
    obtain ⟨x7_1, x14_1, rfl, rfl, HA, HK1, HB⟩ := hrel
    cases gk with
    | zero => exact absurd HA.out (by simp [spec_daVisit.l0])
    | succ k1 =>
      have H := HA.out
      clear HA
      simp only [spec_daVisit.l0] at H
      by_cases c3 : x14_1 < (l1.length : Int)
      · rw [if_pos c3] at H
        have c3b0 : decide (x14_1 < (l1.length : Int)) = true := decide_eq_true c3
        clear c3
        by_cases c4 : 0 ≤ x14_1
        · rw [if_pos c4] at H
          have c4b0 : decide (0 ≤ x14_1) = true := decide_eq_true c4
          clear c4
          by_cases c5 : x14_1 < (l1.length : Int)
          · rw [if_pos c5] at H
            have c5b0 : decide (x14_1 < (l1.length : Int)) = true := decide_eq_true c5
            clear c5
            have HC6 := Aside0.mk H
            clear H
            have p114 : 0 ≤ (x14_1 : Int) := of_decide_eq_true (by first | (with_reducible assumption) | assumption)
            have q114 : x14_1 < (l1.length : Int) := of_decide_eq_true (by first | (with_reducible assumption) | assumption)
            obtain ⟨ad114, e114, hx114_0, hx114_1⟩ := at_T49 HR1.out x14_1 p114 q114
            cases e114
            replace hx114_0 := (HB.out.cell (World.block_lt_of_cell? w _ hx114_0)).trans hx114_0
            replace hx114_1 := (HB.out.cell (World.block_lt_of_cell? w _ hx114_1)).trans hx114_1
            replace p114 := eq_true p114
            replace q114 := eq_true q114
            go_upto_region 7 with (first | ((with_reducible refine gate_dst (N := 9) rfl ?_); refine box_event ?hg (N := 9) ?hd (cs := #[.int .i64 0, .int .i64 0]) (t := 49) ?hr ?_; (case hd => rfl); (case hg => rfl); (case hr => first | (go_simp; done) | (go_simp; rfl)); intro gb115 hg w7 hbox hb; have n0_ := Aside0.mk (below_step (by repeat (first | (with_reducible first | exact HB.out | apply below_alloc | apply pw_below_drewN | apply below_drew1) | exact HB.out)) hb); have n1_ := Aside0.mk (hbox); have n2_ := Aside0.mk ((by rw [hg]; exact (below_size (by repeat (first | (with_reducible first | exact HB.out | apply below_alloc | apply pw_below_drewN | apply below_drew1) | exact HB.out))) : w.heap.size ≤ gb115)); have n3_ := Aside0.mk ((by rw [hg]; exact (below_size (by repeat (first | (with_reducible first | exact HB.out | apply below_alloc | apply pw_below_drewN | apply below_drew1) | exact HB.out))) : w.heap.size ≤ gb115)); clear HB; have HB := n0_; have BK115 := n1_; have GW115 := n2_; have GE115 := n3_; clear n0_ n1_ n2_ n3_; clear hb hbox hg; have hcz8_0 : w7.cell? ⟨gb115, 0, none⟩ = some (.int .i64 0) := (blk_cell BK115.out 0).trans rfl; have hcz8_1 : w7.cell? ⟨gb115, 1, none⟩ = some (.int .i64 0) := (blk_cell BK115.out 1).trans rfl; have hfz8_0 := blk_frozen BK115.out 0; have hfz8_1 := blk_frozen BK115.out 1))
            (try simp only [Act.put, List.setIfInBounds_toArray, List.set_cons_zero, List.set_cons_succ])
            go_cut [31] (fun v31 wc => ∃ (kq : Nat) (x31_5 : Bool), v31 = .bool x31_5 ∧ Aside0 (spec_daVisit.j1 kq a0 l1 (wrap64 (x7_1 - (wrap64 (((rd_T49 l1 x14_1).f0) * ((rd_T49 l1 x14_1).f1))))) (x14_1 == (wrap64 ((l1.length : Int) - 1))) l1 (l1.length : Int) x14_1 x31_5 = some (r1, r2, r3)) ∧ Aside0 (kq ≤ k1) ∧ Aside0 (wc.heap[gb115]? = some (.cells #[.int .i64 ((rd_T49 l1 x14_1).f0), .int .i64 ((rd_T49 l1 x14_1).f1)] 49 (0, 0))) ∧ Aside0 (Below w.heap.size w wc))
            case first =>
              have H := HC6.out
              clear HC6
              by_cases c9 : (wrap64 (x7_1 - (wrap64 (((rd_T49 l1 x14_1).f0) * ((rd_T49 l1 x14_1).f1))))) < 0
              · rw [if_pos c9] at H
                have c9b0 : decide ((wrap64 (x7_1 - (wrap64 (((rd_T49 l1 x14_1).f0) * ((rd_T49 l1 x14_1).f1))))) < 0) = true := decide_eq_true c9
                clear c9
                (first | rw [c9b0] | (simp only [i64_w, i32_w]; rw [c9b0]) | skip)
                have H' := Aside0.mk H
                clear H
                go_wp2
                go_meet
                case rel => exact ⟨_, (true), (by first | rfl | (simp; done) | (simp [*]; done) | (simp only [bneNil, eqNil, Bool.not_not]; done) | (simp [bneNil, eqNil]; done)), H', ⟨by have := HK1.out; first | omega | exact Nat.le_refl _⟩, ⟨by (with_reducible repeat (first | refine blk_drewN ?_ _ | refine blk_drew ?_ | refine blk_alloc ?_ _)); refine blk_put (cs := #[.int .i64 ((rd_T49 l1 x14_1).f0), .int .i64 0]) ?_ 1 _ rfl; (with_reducible repeat (first | refine blk_drewN ?_ _ | refine blk_drew ?_ | refine blk_alloc ?_ _)); refine blk_put (cs := #[.int .i64 0, .int .i64 0]) ?_ 0 _ rfl; (with_reducible repeat (first | refine blk_drewN ?_ _ | refine blk_drew ?_ | refine blk_alloc ?_ _)); exact BK115.out⟩, ⟨by repeat (first | (with_reducible first | exact HB.out | apply below_alloc | apply pw_below_drewN | apply below_drew1 | refine below_set ?_ GE115.out) | exact HB.out)⟩⟩
              · rw [if_neg c9] at H
                have c9b0 : decide ((wrap64 (x7_1 - (wrap64 (((rd_T49 l1 x14_1).f0) * ((rd_T49 l1 x14_1).f1))))) < 0) = false := decide_eq_false c9
                clear c9
                (first | rw [c9b0] | (simp only [i64_w, i32_w]; rw [c9b0]) | skip)
                by_cases c10 : (wrap64 (x7_1 - (wrap64 (((rd_T49 l1 x14_1).f0) * ((rd_T49 l1 x14_1).f1))))) = 1
                · rw [if_pos c10] at H
                  have c10b0 : ((wrap64 (x7_1 - (wrap64 (((rd_T49 l1 x14_1).f0) * ((rd_T49 l1 x14_1).f1))))) == 1) = true := beq_iff_eq.mpr c10
                  have c10b1 : ((wrap64 (x7_1 - (wrap64 (((rd_T49 l1 x14_1).f0) * ((rd_T49 l1 x14_1).f1))))) != 1) = false := bne_eq_false_iff_eq.mpr c10
                  clear c10
                  have H' := Aside0.mk H
                  clear H
                  go_wp2
                  go_meet
                  case rel => exact ⟨_, (true), (by first | rfl | (simp; done) | (simp [*]; done) | (simp only [bneNil, eqNil, Bool.not_not]; done) | (simp [bneNil, eqNil]; done)), H', ⟨by have := HK1.out; first | omega | exact Nat.le_refl _⟩, ⟨by (with_reducible repeat (first | refine blk_drewN ?_ _ | refine blk_drew ?_ | refine blk_alloc ?_ _)); refine blk_put (cs := #[.int .i64 ((rd_T49 l1 x14_1).f0), .int .i64 0]) ?_ 1 _ rfl; (with_reducible repeat (first | refine blk_drewN ?_ _ | refine blk_drew ?_ | refine blk_alloc ?_ _)); refine blk_put (cs := #[.int .i64 0, .int .i64 0]) ?_ 0 _ rfl; (with_reducible repeat (first | refine blk_drewN ?_ _ | refine blk_drew ?_ | refine blk_alloc ?_ _)); exact BK115.out⟩, ⟨by repeat (first | (with_reducible first | exact HB.out | apply below_alloc | apply pw_below_drewN | apply below_drew1 | refine below_set ?_ GE115.out) | exact HB.out)⟩⟩
                · rw [if_neg c10] at H
                  have c10b0 : ((wrap64 (x7_1 - (wrap64 (((rd_T49 l1 x14_1).f0) * ((rd_T49 l1 x14_1).f1))))) == 1) = false := beq_eq_false_iff_ne.mpr c10
                  have c10b1 : ((wrap64 (x7_1 - (wrap64 (((rd_T49 l1 x14_1).f0) * ((rd_T49 l1 x14_1).f1))))) != 1) = true := bne_iff_ne.mpr c10
                  by_cases c11 : (wrap64 (x7_1 - (wrap64 (((rd_T49 l1 x14_1).f0) * ((rd_T49 l1 x14_1).f1))))) = 0
                  · rw [if_pos c11] at H
                    have c11b0 : ((wrap64 (x7_1 - (wrap64 (((rd_T49 l1 x14_1).f0) * ((rd_T49 l1 x14_1).f1))))) == 0) = true := beq_iff_eq.mpr c11
                    have c11b1 : ((wrap64 (x7_1 - (wrap64 (((rd_T49 l1 x14_1).f0) * ((rd_T49 l1 x14_1).f1))))) != 0) = false := bne_eq_false_iff_eq.mpr c11
                    clear c11
                    have H' := Aside0.mk H
                    clear H
                    have hcz12_0 : w7.cell? ⟨gb115, 0, none⟩ = some (.int .i64 0) := (blk_cell BK115.out 0).trans rfl
                    have hcz12_1 : w7.cell? ⟨gb115, 1, none⟩ = some (.int .i64 0) := (blk_cell BK115.out 1).trans rfl
                    have hfz12_0 := blk_frozen BK115.out 0
                    have hfz12_1 := blk_frozen BK115.out 1
                    go_wp2
                    go_meet
                    case rel => exact ⟨_, ((((rd_T49 l1 x14_1).f1) != 2)), (by first | rfl | (simp; done) | (simp [*]; done) | (simp only [bneNil, eqNil, Bool.not_not]; done) | (simp [bneNil, eqNil]; done)), H', ⟨by have := HK1.out; first | omega | exact Nat.le_refl _⟩, ⟨by (with_reducible repeat (first | refine blk_drewN ?_ _ | refine blk_drew ?_ | refine blk_alloc ?_ _)); refine blk_put (cs := #[.int .i64 ((rd_T49 l1 x14_1).f0), .int .i64 0]) ?_ 1 _ rfl; (with_reducible repeat (first | refine blk_drewN ?_ _ | refine blk_drew ?_ | refine blk_alloc ?_ _)); refine blk_put (cs := #[.int .i64 0, .int .i64 0]) ?_ 0 _ rfl; (with_reducible repeat (first | refine blk_drewN ?_ _ | refine blk_drew ?_ | refine blk_alloc ?_ _)); exact BK115.out⟩, ⟨by repeat (first | (with_reducible first | exact HB.out | apply below_alloc | apply pw_below_drewN | apply below_drew1 | refine below_set ?_ GE115.out) | exact HB.out)⟩⟩
                  · rw [if_neg c11] at H
                    have c11b0 : ((wrap64 (x7_1 - (wrap64 (((rd_T49 l1 x14_1).f0) * ((rd_T49 l1 x14_1).f1))))) == 0) = false := beq_eq_false_iff_ne.mpr c11
                    have c11b1 : ((wrap64 (x7_1 - (wrap64 (((rd_T49 l1 x14_1).f0) * ((rd_T49 l1 x14_1).f1))))) != 0) = true := bne_iff_ne.mpr c11
                    have H' := Aside0.mk H
                    clear H
                    go_wp2
                    go_meet
                    case rel => exact ⟨_, (false), (by first | rfl | (simp; done) | (simp [*]; done) | (simp only [bneNil, eqNil, Bool.not_not]; done) | (simp [bneNil, eqNil]; done)), H', ⟨by have := HK1.out; first | omega | exact Nat.le_refl _⟩, ⟨by (with_reducible repeat (first | refine blk_drewN ?_ _ | refine blk_drew ?_ | refine blk_alloc ?_ _)); refine blk_put (cs := #[.int .i64 ((rd_T49 l1 x14_1).f0), .int .i64 0]) ?_ 1 _ rfl; (with_reducible repeat (first | refine blk_drewN ?_ _ | refine blk_drew ?_ | refine blk_alloc ?_ _)); refine blk_put (cs := #[.int .i64 0, .int .i64 0]) ?_ 0 _ rfl; (with_reducible repeat (first | refine blk_drewN ?_ _ | refine blk_drew ?_ | refine blk_alloc ?_ _)); exact BK115.out⟩, ⟨by repeat (first | (with_reducible first | exact HB.out | apply below_alloc | apply pw_below_drewN | apply below_drew1 | refine below_set ?_ GE115.out) | exact HB.out)⟩⟩
            case rest =>
              clear HC6
              try clear c1
              try clear p1
              try clear q1
              try clear hx1
              try clear p2
              try clear c3
              try clear c3b0
              try clear c4
              try clear c4b0
              try clear c5
              try clear c5b0
              try clear p6
              try clear c9
              try clear c9b0
              try clear c10
              try clear c10b0
              try clear c10b1
              try clear c11
              try clear c11b0
              try clear c11b1
              try clear p11
              try clear q11
              try clear hx11
              try clear hcz12_0
              try clear hcz12_1
              try clear hcz8_0
              try clear hcz8_1
              try clear hfz12_0
              try clear hfz12_1
              try clear hfz8_0
              try clear hfz8_1
              try clear hx114_0
              try clear hx114_1
              try clear p114
              try clear p2
              try clear q114
              obtain ⟨kq, x31_5, rfl, HA, HJ5, BK115, HB⟩ := hcut
              cases kq with
              | zero => exact absurd HA.out (by simp [spec_daVisit.j1])
              | succ kj5 =>
                have H := HA.out
                clear HA
                simp only [spec_daVisit.j1] at H
                by_cases c13 : x31_5 = true
                · subst c13
                  have H1 : (some (a0, true, (x14_1 == (wrap64 ((l1.length : Int) - 1))))) = some (r1, r2, r3) := by rw [if_pos rfl] at H; exact H
                  clear H
                  have H := H1
                  clear H1
                  simp only [Option.some.injEq, Prod.mk.injEq] at H
                  obtain ⟨rfl, rfl, rfl⟩ := H
                  go_wp2
                  go_ret3
                  exact ⟨by first | rfl | (simp [errW_none, errW_some] <;> rfl) | (simp [*, errW_none, errW_some] <;> rfl), by repeat (first | (with_reducible first | exact HB.out | apply below_alloc | apply pw_below_drewN | apply below_drew1 | refine below_set ?_ GE115.out) | exact HB.out)⟩
                · replace c13 := Bool.eq_false_iff.mpr c13
                  subst c13
                  have H1 : (if (wrap64 (x7_1 - (wrap64 (((rd_T49 l1 x14_1).f0) * ((rd_T49 l1 x14_1).f1))))) = 0 then (some (0, false, (x14_1 == (wrap64 ((l1.length : Int) - 1))))) else (spec_daVisit.l0 kj5 a0 l1 (wrap64 (x7_1 - (wrap64 (((rd_T49 l1 x14_1).f0) * ((rd_T49 l1 x14_1).f1))))) l1 (l1.length : Int) (wrap64 (x14_1 + 1)))) = some (r1, r2, r3) := by rw [if_neg (show ¬ (false = true) by decide)] at H; exact H
                  clear H
                  have H := H1
                  clear H1
                  by_cases c14 : (wrap64 (x7_1 - (wrap64 (((rd_T49 l1 x14_1).f0) * ((rd_T49 l1 x14_1).f1))))) = 0
                  · rw [if_pos c14] at H
                    have c14b0 : ((wrap64 (x7_1 - (wrap64 (((rd_T49 l1 x14_1).f0) * ((rd_T49 l1 x14_1).f1))))) == 0) = true := beq_iff_eq.mpr c14
                    have c14b1 : ((wrap64 (x7_1 - (wrap64 (((rd_T49 l1 x14_1).f0) * ((rd_T49 l1 x14_1).f1))))) != 0) = false := bne_eq_false_iff_eq.mpr c14
                    clear c14
                    simp only [Option.some.injEq, Prod.mk.injEq] at H
                    obtain ⟨rfl, rfl, rfl⟩ := H
                    go_wp2
                    go_ret3
                    exact ⟨by first | rfl | (simp [errW_none, errW_some] <;> rfl) | (simp [*, errW_none, errW_some] <;> rfl), by repeat (first | (with_reducible first | exact HB.out | apply below_alloc | apply pw_below_drewN | apply below_drew1 | refine below_set ?_ GE115.out) | exact HB.out)⟩
                  · rw [if_neg c14] at H
                    have c14b0 : ((wrap64 (x7_1 - (wrap64 (((rd_T49 l1 x14_1).f0) * ((rd_T49 l1 x14_1).f1))))) == 0) = false := beq_eq_false_iff_ne.mpr c14
                    have c14b1 : ((wrap64 (x7_1 - (wrap64 (((rd_T49 l1 x14_1).f0) * ((rd_T49 l1 x14_1).f1))))) != 0) = true := bne_iff_ne.mpr c14
                    have H' := Aside0.mk H
                    clear H
                    go_wp2
                    go_roundg kj5
                    case measure => have := HK1.out; have := HJ5.out; omega
                    case rel => exact ⟨((wrap64 (x7_1 - (wrap64 (((rd_T49 l1 x14_1).f0) * ((rd_T49 l1 x14_1).f1)))))), (wrap64 (x14_1 + 1)), (by first | rfl | (simp; done) | (simp [*]; done)), (by first | rfl | (simp; done) | (simp [*]; done) | (simp only [bneNil, eqNil, Bool.not_not]; done) | (simp [bneNil, eqNil]; done)), H', ⟨by have := HK1.out; have := HJ5.out; omega⟩, ⟨by repeat (first | (with_reducible first | exact HB.out | apply below_alloc | apply pw_below_drewN | apply below_drew1 | refine below_set ?_ GE115.out) | exact HB.out)⟩⟩
          · rw [if_neg c5] at H
            exact absurd H (by simp)
        · rw [if_neg c4] at H
          exact absurd H (by simp)
      · rw [if_neg c3] at H
        have c3b0 : decide (x14_1 < (l1.length : Int)) = false := decide_eq_false c3
        clear c3
        simp only [Option.some.injEq, Prod.mk.injEq] at H
        obtain ⟨rfl, rfl, rfl⟩ := H
        go_wp2
        go_ret3
        exact ⟨by first | rfl | (simp [errW_none, errW_some] <;> rfl) | (simp [*, errW_none, errW_some] <;> rfl), by repeat (first | (with_reducible first | exact HB.out | apply below_alloc | apply pw_below_drewN | apply below_drew1) | exact HB.out)⟩

end Go.Proofs.Ytgdkedcahcpofaa.PA
