/- Printed by this session's drive.py (the kit's print.py with hooks): functions of the seat as plain Lean functions, and the proofs that the calls do what these say. -/
import Derived.Test.YtoaiajgbiaedfaaPAx0
import Derived.Test.YtoaiajgbiaedfaaPAx1020
import Derived.Test.YtoaiajgbiaedfaaPAx1028
import Derived.Test.YtoaiajgbiaedfaaPAx30
namespace Go.Proofs.Ytoaiajgbiaedfaa.PA
open Go.RowKit Go.Proofs.YtoaiajgbiaedfaaW.PrintWords Go.Proofs.YtoaiajgbiaedfaaW.PrintLast Go.Proofs.YtoaiajgbiaedfaaW.PrintMore
open Go.Proofs.YtoaiajgbiaedfaaH
attribute [local go_sem] max2_int min2_int max_two min_two max_three min_three max_four min_four   -- for this text's walks alone
set_option linter.unusedVariables false
set_option linter.unusedSimpArgs false

/-! ### spec_NoFinishes: function 48 -/
mutual
def spec_NoFinishes.j0 : Nat → Int → Int → Bool → Option (List Int × Bool)
 | 0, _, _, _ => none
 | k + 1, x0, x1, x19 => if x19 = true then (some (([] : List Int), false)) else (if 1002 ≤ 281474976710656 then (spec_NoFinishes.l0 k x0 x1 (List.replicate 1002 false) 1) else (none))
def spec_NoFinishes.l0 : Nat → Int → Int → List Bool → Int → Option (List Int × Bool)
 | 0, _, _, _, _ => none
 | k + 1, x0, x1, x6, x7 => if x7 ≤ x1 then ((spec_daCount.f k x7 x0 true).bind fun t506 => (spec_NoFinishes.l1 k x0 x1 x6 x7 t506 (t506.length : Int) 0)) else (spec_NoFinishes.l2 k x0 x6 ([] : List Int) 2)
def spec_NoFinishes.l1 : Nat → Int → Int → List Bool → Int → List Int → Int → Int → Option (List Int × Bool)
 | 0, _, _, _, _, _, _, _ => none
 | k + 1, x0, x1, x6, x7, x28, x29, x30 => if x30 < x29 then (if 0 ≤ x30 then (if x30 < (x28.length : Int) then (if x30 < (x6.length : Int) then (if rdOf false x6 x30 = true then (spec_NoFinishes.l1 k x0 x1 (x6.set (x30 : Int).toNat true) x7 x28 x29 (wrap64 (x30 + 1))) else (spec_NoFinishes.l1 k x0 x1 (x6.set (x30 : Int).toNat (decide ((rd x28 x30) > 0))) x7 x28 x29 (wrap64 (x30 + 1)))) else (none)) else (none)) else (none)) else (spec_NoFinishes.l0 k x0 x1 x6 (wrap64 (x7 + 1)))
def spec_NoFinishes.l2 : Nat → Int → List Bool → List Int → Int → Option (List Int × Bool)
 | 0, _, _, _, _ => none
 | k + 1, x0, x6, x10, x11 => if x11 ≤ x0 then (if 0 ≤ x11 then (if x11 < (x6.length : Int) then (if rdOf false x6 x11 = true then (spec_NoFinishes.l2 k x0 x6 x10 (wrap64 (x11 + 1))) else (if x10.length < 17592186044416 then (spec_NoFinishes.l2 k x0 x6 (x10 ++ [x11]) (wrap64 (x11 + 1))) else (none))) else (none)) else (none)) else (some (x10, true))
end
def spec_NoFinishes.f (k : Nat) (a0 : Int) (a1 : Int) : Option (List Int × Bool) := (spec_daLeft.f a0).bind fun t501 => (if t501 = true then ((spec_daDarts.f a1).bind fun t502 => (spec_NoFinishes.j0 k a0 a1 (!t502))) else (spec_NoFinishes.j0 k a0 a1 true))
theorem spec_NoFinishes.mono_l : ∀ k, (∀ y0 y1 y2, LeO (spec_NoFinishes.j0 k y0 y1 y2) (spec_NoFinishes.j0 (k + 1) y0 y1 y2)) ∧ (∀ y0 y1 y2 y3, LeO (spec_NoFinishes.l0 k y0 y1 y2 y3) (spec_NoFinishes.l0 (k + 1) y0 y1 y2 y3)) ∧ (∀ y0 y1 y2 y3 y4 y5 y6, LeO (spec_NoFinishes.l1 k y0 y1 y2 y3 y4 y5 y6) (spec_NoFinishes.l1 (k + 1) y0 y1 y2 y3 y4 y5 y6)) ∧ (∀ y0 y1 y2 y3, LeO (spec_NoFinishes.l2 k y0 y1 y2 y3) (spec_NoFinishes.l2 (k + 1) y0 y1 y2 y3))
 | 0 => ⟨fun _ _ _ r h => by simp [spec_NoFinishes.j0] at h, fun _ _ _ _ r h => by simp [spec_NoFinishes.l0] at h, fun _ _ _ _ _ _ _ r h => by simp [spec_NoFinishes.l1] at h, fun _ _ _ _ r h => by simp [spec_NoFinishes.l2] at h⟩
 | k + 1 => by
  obtain ⟨ih0, ih1, ih2, ih3⟩ := spec_NoFinishes.mono_l k
  refine ⟨?_, ?_, ?_, ?_⟩
  all_goals intros
  all_goals (first | unfold spec_NoFinishes.j0 | unfold spec_NoFinishes.l0 | unfold spec_NoFinishes.l1 | unfold spec_NoFinishes.l2)
  all_goals repeat' first | (with_reducible exact ih0 _ _ _) | (with_reducible exact ih1 _ _ _ _) | (with_reducible exact ih2 _ _ _ _ _ _ _) | (with_reducible exact ih3 _ _ _ _) | (with_reducible exact spec_daCount.mono _ _ _ _) | (with_reducible exact LeO.refl _) | (with_reducible exact LeO.none _) | (with_reducible refine LeO.ite ?_ ?_) | (with_reducible refine LeO.bind ?_ (fun _ => ?_)) | exact ih0 _ _ _ | exact ih1 _ _ _ _ | exact ih2 _ _ _ _ _ _ _ | exact ih3 _ _ _ _ | exact spec_daCount.mono _ _ _ _ | exact LeO.none _ | refine LeO.ite ?_ ?_ | refine LeO.bind ?_ (fun _ => ?_)
theorem spec_NoFinishes.mono : ∀ a0 a1 k, LeO (spec_NoFinishes.f k a0 a1) (spec_NoFinishes.f (k + 1) a0 a1) := by
 intro a0 a1 k
 obtain ⟨ih0, ih1, ih2, ih3⟩ := spec_NoFinishes.mono_l k
 unfold spec_NoFinishes.f
 repeat' first
   | (with_reducible exact ih0 _ _ _)
   | (with_reducible exact ih1 _ _ _ _)
   | (with_reducible exact ih2 _ _ _ _ _ _ _)
   | (with_reducible exact ih3 _ _ _ _)
   | (with_reducible exact spec_daCount.mono _ _ _ _)
   | (with_reducible exact LeO.refl _)
   | (with_reducible exact LeO.none _)
   | (with_reducible refine LeO.ite ?_ ?_)
   | (with_reducible refine LeO.bind ?_ (fun _ => ?_))
   | exact ih0 _ _ _
   | exact ih1 _ _ _ _
   | exact ih2 _ _ _ _ _ _ _
   | exact ih3 _ _ _ _
   | exact spec_daCount.mono _ _ _ _
   | exact LeO.none _
   | refine LeO.ite ?_ ?_
   | refine LeO.bind ?_ (fun _ => ?_)
set_option maxHeartbeats 8000000 in
set_option maxRecDepth 100000 in
theorem spec_NoFinishes.calls (k : Nat) (a0 : Int) (a1 : Int) (r1 : List Int) (r2 : Bool) (w : World) (h : spec_NoFinishes.f k a0 a1 = some (r1, r2)) :
  Calls Try.prog 48 #[.int .i64 a0, .int .i64 a1] w fun e w' => ∃ v0_ : Value, e = .returned (.tuple #[v0_, .bool r2]) ∧ Kd.R (Kd.int .i64) 3 w' w.heap.size (fun _ => True) v0_ r1 ∧ Below w.heap.size w w' := by
 have HB := Aside0.mk (Below.refl w.heap.size w)
 have H : ((spec_daLeft.f a0).bind fun t501 => (if t501 = true then ((spec_daDarts.f a1).bind fun t502 => (spec_NoFinishes.j0 k a0 a1 (!t502))) else (spec_NoFinishes.j0 k a0 a1 true))) = some (r1, r2) := h
 clear h
 have HC3 := Aside0.mk H
 clear H
 go_enter Try.func48, Try.ntmps48
 go_upto_region 1 with (fail)
 go_cut [19] (fun v19 wc => ∃ (kq : Nat) (x19_2 : Bool), v19 = .bool x19_2 ∧ Aside0 (spec_NoFinishes.j0 kq a0 a1 x19_2 = some (r1, r2)) ∧ Aside0 (kq ≤ k) ∧ Aside0 (Below w.heap.size w wc))
 case first =>
  have H := HC3.out
  clear HC3
  replace H := Option.bind_eq_some_iff.mp H
  obtain ⟨t501, A40, H⟩ := H
  replace H : (if t501 = true then ((spec_daDarts.f a1).bind fun t502 => (spec_NoFinishes.j0 k a0 a1 (!t502))) else (spec_NoFinishes.j0 k a0 a1 true)) = some (r1, r2) := H
  have A4 := Aside0.mk A40
  clear A40
  by_cases c5 : t501 = true
  ·
   subst c5
   have H1 : ((spec_daDarts.f a1).bind fun t502 => (spec_NoFinishes.j0 k a0 a1 (!t502))) = some (r1, r2) := by rw [if_pos rfl] at H; exact H
   clear H
   have H := H1
   clear H1
   replace H := Option.bind_eq_some_iff.mp H
   obtain ⟨t502, A60, H⟩ := H
   replace H : (spec_NoFinishes.j0 k a0 a1 (!t502)) = some (r1, r2) := H
   have A6 := Aside0.mk A60
   clear A60
   have H' := Aside0.mk H
   clear H
   go_wp2_with (first | ((with_reducible refine gate_callee (f := 63) rfl ?_); refine goesL_ (some 13) rfl rfl Try.func63 (by kernel_rfl) rfl #[.int .i64 a0] rfl (by (try simp only [List.map_toArray, List.map_cons, List.map_nil]); first | done | rfl | (simp only [List.length_drop, List.length_take]; rfl)) ?_; (with_reducible refine (spec_daLeft.calls a0 true _ A4.out).mono ?_); rintro e w' ⟨rfl, ⟨nd, rfl⟩⟩; refine ⟨_, rfl, ?_⟩) | (go_at_call 65; (with_reducible refine (spec_daDarts.calls a1 t502 _ A6.out).mono ?_); rintro e w' ⟨rfl, ⟨nd, rfl⟩⟩))
   go_meet
   case rel => exact ⟨_, (!t502), (by first | rfl | (simp; done) | (simp [*]; done)), H', ⟨by first | omega | exact Nat.le_refl _⟩, ⟨by repeat (first | (with_reducible first | exact HB.out | apply below_alloc | apply pw_below_drewN | apply below_drew1) | exact HB.out)⟩⟩
  ·
   replace c5 := Bool.eq_false_iff.mpr c5
   subst c5
   have H1 : (spec_NoFinishes.j0 k a0 a1 true) = some (r1, r2) := by rw [if_neg (show ¬ (false = true) by decide)] at H; exact H
   clear H
   have H := H1
   clear H1
   have H' := Aside0.mk H
   clear H
   go_wp2_with (first | ((with_reducible refine gate_callee (f := 63) rfl ?_); refine goesL_ (some 13) rfl rfl Try.func63 (by kernel_rfl) rfl #[.int .i64 a0] rfl (by (try simp only [List.map_toArray, List.map_cons, List.map_nil]); first | done | rfl | (simp only [List.length_drop, List.length_take]; rfl)) ?_; (with_reducible refine (spec_daLeft.calls a0 false _ A4.out).mono ?_); rintro e w' ⟨rfl, ⟨nd, rfl⟩⟩; refine ⟨_, rfl, ?_⟩))
   go_meet
   case rel => exact ⟨_, (true), (by first | rfl | (simp; done) | (simp [*]; done)), H', ⟨by first | omega | exact Nat.le_refl _⟩, ⟨by repeat (first | (with_reducible first | exact HB.out | apply below_alloc | apply pw_below_drewN | apply below_drew1) | exact HB.out)⟩⟩
 case rest =>
  clear HC3
  try clear p2
  try clear c4
  try clear c5
  try clear c6
  obtain ⟨kq, x19_2, rfl, HA, HJ2, HB⟩ := hcut
  cases kq with
  | zero => exact absurd HA.out (by simp [spec_NoFinishes.j0])
  | succ kj2 =>
   have H := HA.out
   clear HA
   simp only [spec_NoFinishes.j0] at H
   by_cases c7 : x19_2 = true
   ·
    subst c7
    have H1 : (some (([] : List Int), false)) = some (r1, r2) := by rw [if_pos rfl] at H; exact H
    clear H
    have H := H1
    clear H1
    simp only [Option.some.injEq, Prod.mk.injEq] at H
    obtain ⟨rfl, rfl⟩ := H
    go_wp2
    go_ret2
    exact ⟨_, by first | rfl | (simp [errW_none, errW_some] <;> rfl) | (simp [*, errW_none, errW_some] <;> rfl), by first | exact Kd.R_nil _ _ _ _ _ | exact Kd.N_nil _ _ _ _ _ | exact Kd.V_nil _ _ _ _ _ | exact Kd.Q_nil _ _ _ _ _ | exact Kd.S_nil _ _ _ _ _, by repeat (first | (with_reducible first | exact HB.out | apply below_alloc | apply pw_below_drewN | apply below_drew1) | exact HB.out)⟩
   ·
    replace c7 := Bool.eq_false_iff.mpr c7
    subst c7
    have H1 : (if 1002 ≤ 281474976710656 then (spec_NoFinishes.l0 kj2 a0 a1 (List.replicate 1002 false) 1) else (none)) = some (r1, r2) := by rw [if_neg (show ¬ (false = true) by decide)] at H; exact H
    clear H
    have H := H1
    clear H1
    by_cases c8 : 1002 ≤ 281474976710656
    ·
     rw [if_pos c8] at H
     have c8b0 := eq_true c8
     have c8b1 : decide (1002 ≤ 281474976710656) = true := decide_eq_true c8
     clear c8
     obtain ⟨y503, hy503⟩ : ∃ y_ : List Bool, y_ = (List.replicate 1002 false) := ⟨_, rfl⟩
     replace H : (spec_NoFinishes.l0 kj2 a0 a1 y503 1) = some (r1, r2) := by first | (rw [hy503]; with_reducible exact H) | (have H2_ := (Option.bind_some _ _).symm.trans H; rw [hy503]; with_reducible exact H2_) | (have H2_ := (Option.bind_some _ _).symm.trans H; with_reducible exact H2_) | with_reducible exact H | (rw [hy503]; exact H) | exact H
     have Ny503 := Aside0.mk hy503
     clear hy503
     have H' := Aside0.mk H
     clear H
     go_wp2_with (first | ((with_reducible refine gate_dst (N := 20) rfl ?_); refine Kd.R_make Kd.bool _ 4 rfl (N := 20) rfl 72 _ _ rfl 1002 rfl rfl Try.underlying72 (.bool false) 1 info4 rfl (by decide) (by omega) false (ok := fun _ => True) (okp := fun _ => True) rfl (fun _ hk => hk) trivial (by omega) (by omega) (Below.refl _ _) (Nat.le_refl _) ?_; intro v504 w9 ho10 hb hg_ hnew_; clear hg_ hnew_; (first | rw [← Ny503.out] at ho10 | (simp only [Int.reduceToNat] at ho10; rw [← Ny503.out] at ho10)); have n0_ := Aside0.mk (Kd.R_lower ho10 (below_size (by repeat (first | (with_reducible first | exact HB.out | apply below_alloc | apply pw_below_drewN | apply below_drew1) | exact HB.out)))); have n1_ := Aside0.mk (below_step (by repeat (first | (with_reducible first | exact HB.out | apply below_alloc | apply pw_below_drewN | apply below_drew1) | exact HB.out)) hb); clear HB; have HO505 := n0_; have HB := n1_; clear n0_ n1_; clear hb ho10))
     go_loopg [7] kj2 (fun kq v7 w' => ∃ (x6_2 : List Bool) (x7_2 : Int), v7 = .int .i64 x7_2 ∧ Aside0 (spec_NoFinishes.l0 kq a0 a1 x6_2 x7_2 = some (r1, r2)) ∧ Aside0 (kq ≤ kj2) ∧ Aside0 (Kd.R Kd.bool 4 w' w.heap.size (fun _ => True) v504 x6_2) ∧ Aside0 (Below w.heap.size w w'))
     case atStart => exact ⟨(y503), (1), (by first | rfl | (simp; done) | (simp [*]; done)), H', ⟨Nat.le_refl _⟩, ⟨by (with_reducible repeat (first | apply Kd.R_alloc | apply Kd.R_drewN | apply Kd.R_drew)); exact HO505.out⟩, ⟨by repeat (first | (with_reducible first | exact HB.out | apply below_alloc | apply pw_below_drewN | apply below_drew1) | exact HB.out)⟩⟩
     case round =>
      clear H'
      try clear p2
      try clear c4
      try clear c5
      try clear c6
      try clear c7
      try clear c8
      try clear c8b0
      try clear c8b1
      try clear p2
      obtain ⟨x6_2, x7_2, rfl, HA, HK2, HO_6, HB⟩ := hrel
      cases gk with
      | zero => exact absurd HA.out (by simp [spec_NoFinishes.l0])
      | succ k2 =>
       have H := HA.out
       clear HA
       simp only [spec_NoFinishes.l0] at H
       by_cases c11 : x7_2 ≤ a1
       ·
        rw [if_pos c11] at H
        have c11b0 : decide (x7_2 ≤ a1) = true := decide_eq_true c11
        clear c11
        replace H := Option.bind_eq_some_iff.mp H
        obtain ⟨t506, A120, H⟩ := H
        replace H : (spec_NoFinishes.l1 k2 a0 a1 x6_2 x7_2 t506 (t506.length : Int) 0) = some (r1, r2) := H
        have A12 := Aside0.mk A120
        clear A120
        have H' := Aside0.mk H
        clear H
        go_wp2_with (first | ((with_reducible refine gate_callee (f := 66) rfl ?_); refine goesL_ (some 28) rfl rfl Try.func66 (by kernel_rfl) rfl #[.int .i64 x7_2, .int .i64 a0, .bool true] rfl (by (try simp only [List.map_toArray, List.map_cons, List.map_nil]); first | done | rfl | (simp only [List.length_drop, List.length_take]; rfl)) ?_; (with_reducible refine (spec_daCount.calls k2 x7_2 a0 true t506 _ A12.out).mono ?_); rintro e w13 ⟨v507, rfl, ho0, hb⟩; refine ⟨_, rfl, ?_⟩; have n0_ := Aside0.mk (Kd.R_below (by (with_reducible repeat (first | apply Kd.R_alloc | apply Kd.R_drewN | apply Kd.R_drew)); exact HO_6.out) hb); have n1_ := Aside0.mk (Kd.R_lower ho0 (below_size (by repeat (first | (with_reducible first | exact HB.out | apply below_alloc | apply pw_below_drewN | apply below_drew1) | exact HB.out)))); have n2_ := Aside0.mk (below_step (by repeat (first | (with_reducible first | exact HB.out | apply below_alloc | apply pw_below_drewN | apply below_drew1) | exact HB.out)) hb); clear HO_6; clear HB; have HO_6 := n0_; have HO508 := n1_; have HB := n2_; clear n0_ n1_ n2_; (try clear hb); (try clear hb2); (try clear hk); (try clear hi); (try clear ho0); obtain ⟨Ao14, co14, eo14⟩ := Kd.R_slice HO508.out; subst eo14))
        go_loopg [30] k2 (fun kq v30 w' => ∃ (x6_3 : List Bool) (x30_3 : Int), v30 = .int .i64 x30_3 ∧ Aside0 (spec_NoFinishes.l1 kq a0 a1 x6_3 x7_2 t506 (t506.length : Int) x30_3 = some (r1, r2)) ∧ Aside0 (kq ≤ k2) ∧ Aside0 (Kd.R Kd.bool 4 w' w.heap.size (fun _ => True) v504 x6_3) ∧ Aside0 (Kd.R (Kd.int .i64) 3 w' w.heap.size (fun _ => True) (.slice Ao14 t506.length co14) t506) ∧ Aside0 (Below w.heap.size w w'))
        case atStart => exact ⟨(x6_2), (0), (by first | rfl | (simp; done) | (simp [*]; done)), H', ⟨Nat.le_refl _⟩, ⟨by (with_reducible repeat (first | apply Kd.R_alloc | apply Kd.R_drewN | apply Kd.R_drew)); exact HO_6.out⟩, ⟨by (with_reducible repeat (first | apply Kd.R_alloc | apply Kd.R_drewN | apply Kd.R_drew)); exact HO508.out⟩, ⟨by repeat (first | (with_reducible first | exact HB.out | apply below_alloc | apply pw_below_drewN | apply below_drew1) | exact HB.out)⟩⟩
        case round =>
         clear H'
         try clear c1
         try clear p2
         try clear c4
         try clear c5
         try clear c6
         try clear c7
         try clear c8
         try clear c8b0
         try clear c8b1
         try clear c11
         try clear c11b0
         try clear p2
         obtain ⟨x6_3, x30_3, rfl, HA, HK3, HO_6, HO_28, HB⟩ := hrel
         cases gk with
         | zero => exact absurd HA.out (by simp [spec_NoFinishes.l1])
         | succ k3 =>
          have H := HA.out
          clear HA
          simp only [spec_NoFinishes.l1] at H
          by_cases c15 : x30_3 < (t506.length : Int)
          ·
           rw [if_pos c15] at H
           have c15b0 : decide (x30_3 < (t506.length : Int)) = true := decide_eq_true c15
           clear c15
           by_cases c16 : 0 ≤ x30_3
           ·
            rw [if_pos c16] at H
            have c16b0 : decide (0 ≤ x30_3) = true := decide_eq_true c16
            clear c16
            by_cases c17 : x30_3 < (t506.length : Int)
            ·
             rw [if_pos c17] at H
             have c17b0 : decide (x30_3 < (t506.length : Int)) = true := decide_eq_true c17
             clear c17
             by_cases c18 : x30_3 < (x6_3.length : Int)
             ·
              rw [if_pos c18] at H
              have c18b0 : decide (x30_3 < (x6_3.length : Int)) = true := decide_eq_true c18
              clear c18
              obtain ⟨bq19, hbq19⟩ : ∃ b_ : Bool, b_ = (rdOf false x6_3 x30_3) := ⟨_, rfl⟩
              replace H : (if bq19 = true then (spec_NoFinishes.l1 k3 a0 a1 (x6_3.set (x30_3 : Int).toNat true) x7_2 t506 (t506.length : Int) (wrap64 (x30_3 + 1))) else (spec_NoFinishes.l1 k3 a0 a1 (x6_3.set (x30_3 : Int).toNat (decide ((rd t506 x30_3) > 0))) x7_2 t506 (t506.length : Int) (wrap64 (x30_3 + 1)))) = some (r1, r2) := by rw [← hbq19] at H; exact H
              have Nbq19 := Aside0.mk hbq19
              clear hbq19
              by_cases c20 : bq19 = true
              ·
               subst c20
               have H1 : (spec_NoFinishes.l1 k3 a0 a1 (x6_3.set (x30_3 : Int).toNat true) x7_2 t506 (t506.length : Int) (wrap64 (x30_3 + 1))) = some (r1, r2) := by rw [if_pos rfl] at H; exact H
               clear H
               have H := H1
               clear H1
               obtain ⟨y511, hy511⟩ : ∃ y_ : List Bool, y_ = (x6_3.set (x30_3 : Int).toNat true) := ⟨_, rfl⟩
               replace H : (spec_NoFinishes.l1 k3 a0 a1 y511 x7_2 t506 (t506.length : Int) (wrap64 (x30_3 + 1))) = some (r1, r2) := by first | (rw [hy511]; with_reducible exact H) | (have H2_ := (Option.bind_some _ _).symm.trans H; rw [hy511]; with_reducible exact H2_) | (have H2_ := (Option.bind_some _ _).symm.trans H; with_reducible exact H2_) | with_reducible exact H | (rw [hy511]; exact H) | exact H
               have Ny511 := Aside0.mk hy511
               clear hy511
               have H' := Aside0.mk H
               clear H
               have p509 : 0 ≤ (x30_3 : Int) := of_decide_eq_true (by first | (with_reducible assumption) | assumption)
               have q509 : x30_3 < (t506.length : Int) := of_decide_eq_true (by first | (with_reducible assumption) | assumption)
               obtain ⟨ad509, e509, hx509_0⟩ := Kd.at_int (Kd.R_reads' HO_28.out).2.2 x30_3 p509 q509
               cases e509
               replace p509 := eq_true p509
               replace q509 := eq_true q509
               obtain ⟨Ao22, co22, eo22⟩ := Kd.R_slice HO_6.out
               subst eo22
               have p510 : 0 ≤ (x30_3 : Int) := of_decide_eq_true (by first | (with_reducible assumption) | assumption)
               have q510 : x30_3 < (x6_3.length : Int) := of_decide_eq_true (by first | (with_reducible assumption) | assumption)
               obtain ⟨ad510, e510, hx510_0⟩ := Kd.at_bool (Kd.R_reads' HO_6.out).2.2 x30_3 p510 q510
               (try rw [← Nbq19.out] at hx510_0)
               cases e510
               replace p510 := eq_true p510
               replace q510 := eq_true q510
               have p21 : 0 ≤ (x30_3 : Int) := of_decide_eq_true (by first | (with_reducible assumption) | assumption)
               have q21 : (x30_3 : Int) < ((x6_3.length : Int) : Int) := of_decide_eq_true (by first | (with_reducible assumption) | assumption)
               obtain ⟨go21, co21, eo21, gb21, gl21, cl21, HG21⟩ := Kd.R_form HO_6.out (by omega)
               (first | cases eo21 | (injection eo21 with ea_ en_ ec_; (first | subst ea_ | (injection ea_ with ea_; subst ea_)); subst ec_; clear en_))
               have GB21 := Aside0.mk gb21
               have GG21 := Aside0.mk HG21
               clear gb21 gl21 HG21
               (first | simp only [add_plain] at hx510_0 | skip)
               obtain ⟨hx21_0, hf21_0⟩ := Kd.R_celln false HO_6.out (x30_3 : Int) p21 q21
               replace p21 := eq_true p21
               replace q21 := eq_true q21
               have HP23 := Kd.R_putg HO_6.out (x30_3 : Int) true
               go_wp2_with (first | ((with_reducible refine gate_store (t := 4) (p := 45) rfl ?_); refine store_event (t := 4) (p := 45) (v := ?vo_w24) (w1 := (wr.setCell ⟨go21, (x30_3 : Int).toNat, none⟩ (.bool true))) ?hg ?ho ?hn ?hr ?_; (case ho => rfl); (case hg => rfl); (case hn => rfl); (case hr => first | (go_simp; done) | (go_simp; rfl)); intro w24 hw; have hg : wr.grownBy w24 (some go21) := (by rw [hw]; exact HP23.2); have hp_ : Kd.R Kd.bool 4 w24 w.heap.size (fun _ => True) (.slice (some ⟨go21, 0, none⟩) x6_3.length co22) y511 := (by rw [hw, Ny511.out]; exact HP23.1); clear HP23; have n0_ := Aside0.mk (hp_); have n1_ := Aside0.mk (Kd.R_over' (v := (.slice (some ⟨go21, 0, none⟩) x6_3.length co22)) (by (with_reducible repeat (first | apply Kd.R_alloc | apply Kd.R_drewN | apply Kd.R_drew)); exact HO_28.out) (Kd.R_typed HO_6.out) (by decide) hg); have n2_ := Aside0.mk ((by rw [hw]; exact below_set (HB.out) GB21.out : Below w.heap.size w w24)); clear HO_6; clear HO_28; clear HB; have HO_6 := n0_; have HO_28 := n1_; have HB := n2_; clear n0_ n1_ n2_; clear hg hw hp_))
               go_roundg k3
               case measure => have := HJ2.out; have := HK2.out; have := HK3.out; omega
               case rel => exact ⟨(y511), (wrap64 (x30_3 + 1)), (by first | rfl | (simp; done) | (simp [*]; done)), H', ⟨by have := HJ2.out; have := HK2.out; have := HK3.out; omega⟩, ⟨by (with_reducible repeat (first | apply Kd.R_alloc | apply Kd.R_drewN | apply Kd.R_drew)); exact HO_6.out⟩, ⟨by (with_reducible repeat (first | apply Kd.R_alloc | apply Kd.R_drewN | apply Kd.R_drew)); exact HO_28.out⟩, ⟨by repeat (first | (with_reducible first | exact HB.out | apply below_alloc | apply pw_below_drewN | apply below_drew1) | exact HB.out)⟩⟩
              ·
               replace c20 := Bool.eq_false_iff.mpr c20
               subst c20
               have H1 : (spec_NoFinishes.l1 k3 a0 a1 (x6_3.set (x30_3 : Int).toNat (decide ((rd t506 x30_3) > 0))) x7_2 t506 (t506.length : Int) (wrap64 (x30_3 + 1))) = some (r1, r2) := by rw [if_neg (show ¬ (false = true) by decide)] at H; exact H
               clear H
               have H := H1
               clear H1
               obtain ⟨y512, hy512⟩ : ∃ y_ : List Bool, y_ = (x6_3.set (x30_3 : Int).toNat (decide ((rd t506 x30_3) > 0))) := ⟨_, rfl⟩
               replace H : (spec_NoFinishes.l1 k3 a0 a1 y512 x7_2 t506 (t506.length : Int) (wrap64 (x30_3 + 1))) = some (r1, r2) := by first | (rw [hy512]; with_reducible exact H) | (have H2_ := (Option.bind_some _ _).symm.trans H; rw [hy512]; with_reducible exact H2_) | (have H2_ := (Option.bind_some _ _).symm.trans H; with_reducible exact H2_) | with_reducible exact H | (rw [hy512]; exact H) | exact H
               have Ny512 := Aside0.mk hy512
               clear hy512
               have H' := Aside0.mk H
               clear H
               have p509 : 0 ≤ (x30_3 : Int) := of_decide_eq_true (by first | (with_reducible assumption) | assumption)
               have q509 : x30_3 < (t506.length : Int) := of_decide_eq_true (by first | (with_reducible assumption) | assumption)
               obtain ⟨ad509, e509, hx509_0⟩ := Kd.at_int (Kd.R_reads' HO_28.out).2.2 x30_3 p509 q509
               cases e509
               replace p509 := eq_true p509
               replace q509 := eq_true q509
               obtain ⟨Ao26, co26, eo26⟩ := Kd.R_slice HO_6.out
               subst eo26
               have p510 : 0 ≤ (x30_3 : Int) := of_decide_eq_true (by first | (with_reducible assumption) | assumption)
               have q510 : x30_3 < (x6_3.length : Int) := of_decide_eq_true (by first | (with_reducible assumption) | assumption)
               obtain ⟨ad510, e510, hx510_0⟩ := Kd.at_bool (Kd.R_reads' HO_6.out).2.2 x30_3 p510 q510
               (try rw [← Nbq19.out] at hx510_0)
               cases e510
               replace p510 := eq_true p510
               replace q510 := eq_true q510
               have p25 : 0 ≤ (x30_3 : Int) := of_decide_eq_true (by first | (with_reducible assumption) | assumption)
               have q25 : (x30_3 : Int) < ((x6_3.length : Int) : Int) := of_decide_eq_true (by first | (with_reducible assumption) | assumption)
               obtain ⟨go25, co25, eo25, gb25, gl25, cl25, HG25⟩ := Kd.R_form HO_6.out (by omega)
               (first | cases eo25 | (injection eo25 with ea_ en_ ec_; (first | subst ea_ | (injection ea_ with ea_; subst ea_)); subst ec_; clear en_))
               have GB25 := Aside0.mk gb25
               have GG25 := Aside0.mk HG25
               clear gb25 gl25 HG25
               (first | simp only [add_plain] at hx510_0 | skip)
               obtain ⟨hx25_0, hf25_0⟩ := Kd.R_celln false HO_6.out (x30_3 : Int) p25 q25
               replace p25 := eq_true p25
               replace q25 := eq_true q25
               have HP27 := Kd.R_putg HO_6.out (x30_3 : Int) (decide ((rd t506 x30_3) > 0))
               go_wp2_with (first | ((with_reducible refine gate_store (t := 4) (p := 45) rfl ?_); refine store_event (t := 4) (p := 45) (v := ?vo_w28) (w1 := (wr.setCell ⟨go25, (x30_3 : Int).toNat, none⟩ (.bool (decide ((rd t506 x30_3) > 0))))) ?hg ?ho ?hn ?hr ?_; (case ho => rfl); (case hg => rfl); (case hn => rfl); (case hr => first | (go_simp; done) | (go_simp; rfl)); intro w28 hw; have hg : wr.grownBy w28 (some go25) := (by rw [hw]; exact HP27.2); have hp_ : Kd.R Kd.bool 4 w28 w.heap.size (fun _ => True) (.slice (some ⟨go25, 0, none⟩) x6_3.length co26) y512 := (by rw [hw, Ny512.out]; exact HP27.1); clear HP27; have n0_ := Aside0.mk (hp_); have n1_ := Aside0.mk (Kd.R_over' (v := (.slice (some ⟨go25, 0, none⟩) x6_3.length co26)) (by (with_reducible repeat (first | apply Kd.R_alloc | apply Kd.R_drewN | apply Kd.R_drew)); exact HO_28.out) (Kd.R_typed HO_6.out) (by decide) hg); have n2_ := Aside0.mk ((by rw [hw]; exact below_set (HB.out) GB25.out : Below w.heap.size w w28)); clear HO_6; clear HO_28; clear HB; have HO_6 := n0_; have HO_28 := n1_; have HB := n2_; clear n0_ n1_ n2_; clear hg hw hp_))
               go_roundg k3
               case measure => have := HJ2.out; have := HK2.out; have := HK3.out; omega
               case rel => exact ⟨(y512), (wrap64 (x30_3 + 1)), (by first | rfl | (simp; done) | (simp [*]; done)), H', ⟨by have := HJ2.out; have := HK2.out; have := HK3.out; omega⟩, ⟨by (with_reducible repeat (first | apply Kd.R_alloc | apply Kd.R_drewN | apply Kd.R_drew)); exact HO_6.out⟩, ⟨by (with_reducible repeat (first | apply Kd.R_alloc | apply Kd.R_drewN | apply Kd.R_drew)); exact HO_28.out⟩, ⟨by repeat (first | (with_reducible first | exact HB.out | apply below_alloc | apply pw_below_drewN | apply below_drew1) | exact HB.out)⟩⟩
             ·
              rw [if_neg c18] at H
              exact absurd H (by simp)
            ·
             rw [if_neg c17] at H
             exact absurd H (by simp)
           ·
            rw [if_neg c16] at H
            exact absurd H (by simp)
          ·
           rw [if_neg c15] at H
           have c15b0 : decide (x30_3 < (t506.length : Int)) = false := decide_eq_false c15
           clear c15
           have H' := Aside0.mk H
           clear H
           go_wp2
           go_roundg k3
           case measure => have := HJ2.out; have := HK2.out; have := HK3.out; omega
           case rel => exact ⟨(x6_3), (wrap64 (x7_2 + 1)), (by first | rfl | (simp; done) | (simp [*]; done)), H', ⟨by have := HJ2.out; have := HK2.out; have := HK3.out; omega⟩, ⟨by (with_reducible repeat (first | apply Kd.R_alloc | apply Kd.R_drewN | apply Kd.R_drew)); exact HO_6.out⟩, ⟨by repeat (first | (with_reducible first | exact HB.out | apply below_alloc | apply pw_below_drewN | apply below_drew1) | exact HB.out)⟩⟩
       ·
        rw [if_neg c11] at H
        have c11b0 : decide (x7_2 ≤ a1) = false := decide_eq_false c11
        clear c11
        have H' := Aside0.mk H
        clear H
        go_wp2
        go_loopg [10, 11] k2 (fun kq v10 v11 w' => ∃ (x10_3 : List Int) (x11_3 : Int), v11 = .int .i64 x11_3 ∧ Aside0 (spec_NoFinishes.l2 kq a0 x6_2 x10_3 x11_3 = some (r1, r2)) ∧ Aside0 (kq ≤ k2) ∧ Aside0 (Kd.R Kd.bool 4 w' w.heap.size (fun _ => True) v504 x6_2) ∧ Aside0 (Kd.R (Kd.int .i64) 3 w' w.heap.size (fun _ => True) v10 x10_3) ∧ Aside0 (Below w.heap.size w w'))
        case atStart => exact ⟨(([] : List Int)), (2), (by first | rfl | (simp; done) | (simp [*]; done)), H', ⟨Nat.le_refl _⟩, ⟨by (with_reducible repeat (first | apply Kd.R_alloc | apply Kd.R_drewN | apply Kd.R_drew)); exact HO_6.out⟩, ⟨by first | exact Kd.R_nil _ _ _ _ _ | exact Kd.N_nil _ _ _ _ _ | exact Kd.V_nil _ _ _ _ _ | exact Kd.Q_nil _ _ _ _ _ | exact Kd.S_nil _ _ _ _ _⟩, ⟨by repeat (first | (with_reducible first | exact HB.out | apply below_alloc | apply pw_below_drewN | apply below_drew1) | exact HB.out)⟩⟩
        case round =>
         clear H'
         try clear c1
         try clear q1
         try clear c2
         try clear p2
         try clear q2
         try clear hx2
         try clear hf2
         try clear c4
         try clear c5
         try clear p5
         try clear q5
         try clear hx5
         try clear c6
         try clear p6
         try clear c7
         try clear c8
         try clear c8b0
         try clear c8b1
         try clear c11
         try clear c11b0
         try clear c15
         try clear c15b0
         try clear c16
         try clear c16b0
         try clear c17
         try clear c17b0
         try clear c18
         try clear c18b0
         try clear q19
         try clear c20
         try clear p21
         try clear q21
         try clear hx21
         try clear hf21
         try clear p25
         try clear q25
         try clear hx25
         try clear hf25
         try clear hx21_0
         try clear hx25_0
         try clear hx509_0
         try clear hx510_0
         try clear p2
         try clear p21
         try clear p25
         try clear p509
         try clear p510
         try clear q21
         try clear q25
         try clear q509
         try clear q510
         obtain ⟨x10_3, x11_3, rfl, HA, HK3, HO_6, HO_10, HB⟩ := hrel
         cases gk with
         | zero => exact absurd HA.out (by simp [spec_NoFinishes.l2])
         | succ k3 =>
          have H := HA.out
          clear HA
          simp only [spec_NoFinishes.l2] at H
          by_cases c29 : x11_3 ≤ a0
          ·
           rw [if_pos c29] at H
           have c29b0 : decide (x11_3 ≤ a0) = true := decide_eq_true c29
           clear c29
           by_cases c30 : 0 ≤ x11_3
           ·
            rw [if_pos c30] at H
            have c30b0 : decide (0 ≤ x11_3) = true := decide_eq_true c30
            clear c30
            by_cases c31 : x11_3 < (x6_2.length : Int)
            ·
             rw [if_pos c31] at H
             have c31b0 : decide (x11_3 < (x6_2.length : Int)) = true := decide_eq_true c31
             clear c31
             obtain ⟨bq32, hbq32⟩ : ∃ b_ : Bool, b_ = (rdOf false x6_2 x11_3) := ⟨_, rfl⟩
             replace H : (if bq32 = true then (spec_NoFinishes.l2 k3 a0 x6_2 x10_3 (wrap64 (x11_3 + 1))) else (if x10_3.length < 17592186044416 then (spec_NoFinishes.l2 k3 a0 x6_2 (x10_3 ++ [x11_3]) (wrap64 (x11_3 + 1))) else (none))) = some (r1, r2) := by rw [← hbq32] at H; exact H
             have Nbq32 := Aside0.mk hbq32
             clear hbq32
             by_cases c33 : bq32 = true
             ·
              subst c33
              have H1 : (spec_NoFinishes.l2 k3 a0 x6_2 x10_3 (wrap64 (x11_3 + 1))) = some (r1, r2) := by rw [if_pos rfl] at H; exact H
              clear H
              have H := H1
              clear H1
              have H' := Aside0.mk H
              clear H
              obtain ⟨Ao34, co34, eo34⟩ := Kd.R_slice HO_6.out
              subst eo34
              have p513 : 0 ≤ (x11_3 : Int) := of_decide_eq_true (by first | (with_reducible assumption) | assumption)
              have q513 : x11_3 < (x6_2.length : Int) := of_decide_eq_true (by first | (with_reducible assumption) | assumption)
              obtain ⟨ad513, e513, hx513_0⟩ := Kd.at_bool (Kd.R_reads' HO_6.out).2.2 x11_3 p513 q513
              (try rw [← Nbq32.out] at hx513_0)
              cases e513
              replace p513 := eq_true p513
              replace q513 := eq_true q513
              go_wp2
              go_roundg k3
              case measure => have := HJ2.out; have := HK2.out; have := HK3.out; omega
              case rel => exact ⟨(x10_3), (wrap64 (x11_3 + 1)), (by first | rfl | (simp; done) | (simp [*]; done)), H', ⟨by have := HJ2.out; have := HK2.out; have := HK3.out; omega⟩, ⟨by (with_reducible repeat (first | apply Kd.R_alloc | apply Kd.R_drewN | apply Kd.R_drew)); exact HO_6.out⟩, ⟨by (with_reducible repeat (first | apply Kd.R_alloc | apply Kd.R_drewN | apply Kd.R_drew)); exact HO_10.out⟩, ⟨by repeat (first | (with_reducible first | exact HB.out | apply below_alloc | apply pw_below_drewN | apply below_drew1) | exact HB.out)⟩⟩
             ·
              replace c33 := Bool.eq_false_iff.mpr c33
              subst c33
              have H1 : (if x10_3.length < 17592186044416 then (spec_NoFinishes.l2 k3 a0 x6_2 (x10_3 ++ [x11_3]) (wrap64 (x11_3 + 1))) else (none)) = some (r1, r2) := by rw [if_neg (show ¬ (false = true) by decide)] at H; exact H
              clear H
              have H := H1
              clear H1
              by_cases c35 : x10_3.length < 17592186044416
              ·
               rw [if_pos c35] at H
               have LMc35 := Aside0.mk c35
               clear c35
               obtain ⟨y514, hy514⟩ : ∃ y_ : List Int, y_ = (x10_3 ++ [x11_3]) := ⟨_, rfl⟩
               replace H : (spec_NoFinishes.l2 k3 a0 x6_2 y514 (wrap64 (x11_3 + 1))) = some (r1, r2) := by first | (rw [hy514]; with_reducible exact H) | (have H2_ := (Option.bind_some _ _).symm.trans H; rw [hy514]; with_reducible exact H2_) | (have H2_ := (Option.bind_some _ _).symm.trans H; with_reducible exact H2_) | with_reducible exact H | (rw [hy514]; exact H) | exact H
               have Ny514 := Aside0.mk hy514
               clear hy514
               have H' := Aside0.mk H
               clear H
               obtain ⟨Ao36, co36, eo36⟩ := Kd.R_slice HO_6.out
               subst eo36
               have p513 : 0 ≤ (x11_3 : Int) := of_decide_eq_true (by first | (with_reducible assumption) | assumption)
               have q513 : x11_3 < (x6_2.length : Int) := of_decide_eq_true (by first | (with_reducible assumption) | assumption)
               obtain ⟨ad513, e513, hx513_0⟩ := Kd.at_bool (Kd.R_reads' HO_6.out).2.2 x11_3 p513 q513
               (try rw [← Nbq32.out] at hx513_0)
               cases e513
               replace p513 := eq_true p513
               replace q513 := eq_true q513
               go_wp2_with (first | ((with_reducible refine gate_builtin (b := .append) (xs := #[.tmp 57, .tmp 59]) rfl ?_); at_builtin; refine Kd.R_append (Kd.int .i64) (w0 := w) w.heap.size rfl (.tmp 57) (.tmp 59) 36 3 (.int .i64 0) 8 rfl Try.underlying36 info3 rfl (by decide) (by omega) u10 x10_3 x11_3 [.int .i64 x11_3] (fun _ => True) (fun _ => False) rfl rfl ?aP (fun _ hk => hk.elim) ?aF ?aO ?aB ?aS ?aL ?_; (case aP => exact rfl); (case aB => exact (by repeat (first | (with_reducible first | exact HB.out | apply below_alloc | apply pw_below_drewN | apply below_drew1) | exact HB.out))); (case aF => exact (fun _ _ => trivial)); (case aO => exact (by (with_reducible repeat (first | apply Kd.R_alloc | apply Kd.R_drewN | apply Kd.R_drew)); exact HO_10.out)); (case aS => exact (below_size (by repeat (first | (with_reducible first | exact HB.out | apply below_alloc | apply pw_below_drewN | apply below_drew1) | exact HB.out)))); (case aL => have := LMc35.out; omega); intro v515 w37 ho hb hg hat; rw [← Ny514.out] at ho; have n0_ := Aside0.mk (Kd.R_over' (by (with_reducible repeat (first | apply Kd.R_alloc | apply Kd.R_drewN | apply Kd.R_drew)); exact HO_6.out) (Kd.R_typed (by (with_reducible repeat (first | apply Kd.R_alloc | apply Kd.R_drewN | apply Kd.R_drew)); exact HO_10.out)) (by decide) hg); have n1_ := Aside0.mk (hb); have n2_ := Aside0.mk (ho); clear HO_6; clear HB; clear HO_10; have HO_6 := n0_; have HB := n1_; have HO516 := n2_; clear n0_ n1_ n2_; clear ho hb hg hat))
               go_roundg k3
               case measure => have := HJ2.out; have := HK2.out; have := HK3.out; omega
               case rel => exact ⟨(y514), (wrap64 (x11_3 + 1)), (by first | rfl | (simp; done) | (simp [*]; done)), H', ⟨by have := HJ2.out; have := HK2.out; have := HK3.out; omega⟩, ⟨by (with_reducible repeat (first | apply Kd.R_alloc | apply Kd.R_drewN | apply Kd.R_drew)); exact HO_6.out⟩, ⟨by (with_reducible repeat (first | apply Kd.R_alloc | apply Kd.R_drewN | apply Kd.R_drew)); exact HO516.out⟩, ⟨by repeat (first | (with_reducible first | exact HB.out | apply below_alloc | apply pw_below_drewN | apply below_drew1) | exact HB.out)⟩⟩
              ·
               rw [if_neg c35] at H
               exact absurd H (by simp)
            ·
             rw [if_neg c31] at H
             exact absurd H (by simp)
           ·
            rw [if_neg c30] at H
            exact absurd H (by simp)
          ·
           rw [if_neg c29] at H
           have c29b0 : decide (x11_3 ≤ a0) = false := decide_eq_false c29
           clear c29
           simp only [Option.some.injEq, Prod.mk.injEq] at H
           obtain ⟨rfl, rfl⟩ := H
           go_wp2
           go_ret2
           exact ⟨_, by first | rfl | (simp [errW_none, errW_some] <;> rfl) | (simp [*, errW_none, errW_some] <;> rfl), by (with_reducible repeat (first | apply Kd.R_alloc | apply Kd.R_drewN | apply Kd.R_drew)); exact HO_10.out, by repeat (first | (with_reducible first | exact HB.out | apply below_alloc | apply pw_below_drewN | apply below_drew1) | exact HB.out)⟩
    ·
     rw [if_neg c8] at H
     exact absurd H (by simp)

end Go.Proofs.Ytoaiajgbiaedfaa.PA
-- narrow
