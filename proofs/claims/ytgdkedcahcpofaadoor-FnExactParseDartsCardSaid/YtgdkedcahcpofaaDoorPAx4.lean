/- Printed by this session's drive.py (the kit's print.py with hooks): functions of the seat as plain Lean functions, and the proofs that the calls do what these say. -/
import Derived.Test.YtgdkedcahcpofaaDoorPAx0
import Derived.Test.YtgdkedcahcpofaaDoorPAx3
namespace Go.Proofs.YtgdkedcahcpofaaDoor.PA
open Go.RowKit Go.Proofs.YtgdkedcahcpofaaDoorW.PrintWords Go.Proofs.YtgdkedcahcpofaaDoorW.PrintLast Go.Proofs.YtgdkedcahcpofaaDoorW.PrintMore
open Go.Proofs.YtgdkedcahcpofaaDoorH
attribute [local go_sem] max2_int min2_int max_two min_two max_three min_three max_four min_four   -- for this text's walks alone
set_option linter.unusedVariables false
set_option linter.unusedSimpArgs false

/-! ### spec_daText: function 31 -/
def spec_daText.f (k : Nat) (a0_0 : Int) (a0_1 : Int) : Option (ByteArray) := (some (([(⟨#[]⟩ : ByteArray), (⟨#[100]⟩ : ByteArray), (⟨#[116]⟩ : ByteArray)] : List ByteArray) : List ByteArray)).bind fun y117 => (if 0 ≤ (wrap64 (a0_1 - 1)) then (if (wrap64 (a0_1 - 1)) < (y117.length : Int) then ((spec_l1Num.f k a0_0).bind fun t121 => (if (rdOf ByteArray.empty y117 (wrap64 (a0_1 - 1))).size + t121.size ≤ 9223372036854775807 then (some ((rdOf ByteArray.empty y117 (wrap64 (a0_1 - 1))) ++ t121)) else (none))) else (none)) else (none))
theorem spec_daText.mono : ∀ a0 a1 k, LeO (spec_daText.f k a0 a1) (spec_daText.f (k + 1) a0 a1) := by
 intro a0 a1 k
 unfold spec_daText.f
 repeat' first
   | (with_reducible exact spec_l1Num.mono _ _)
   | (with_reducible exact LeO.refl _)
   | (with_reducible exact LeO.none _)
   | (with_reducible refine LeO.ite ?_ ?_)
   | (with_reducible refine LeO.bind ?_ (fun _ => ?_))
   | exact spec_l1Num.mono _ _
   | exact LeO.none _
   | refine LeO.ite ?_ ?_
   | refine LeO.bind ?_ (fun _ => ?_)
def spec_daText.T1 : Bool × List (List Nat × List Nat) := (true, [([], []), ([], []), ([1], [1]), ([2], [2]), ([0, 3], [0, 3]), ([4], [4]), ([], []), ([6], [6]), ([7], [7]), ([5, 8], [5, 8]), ([9, 8, 0, 1, 2, 3, 4, 5, 6, 7, 8, 9], [9])])
def spec_daText.B1 : List Nat := [0, 0, 2, 6, 15, 31, 0, 64, 192, 511, 1023]
theorem spec_daText.tab1 : rtab .any (opsOf Tryd.f31 1) = spec_daText.T1 := by kernel_rfl
theorem spec_daText.bits1 : waitsOk spec_daText.T1.2 spec_daText.B1 = true := by kernel_rfl
set_option maxHeartbeats 8000000 in
set_option maxRecDepth 100000 in
theorem spec_daText.calls (k : Nat) (a0_0 : Int) (a0_1 : Int) (r : ByteArray) (w : World) (h : spec_daText.f k a0_0 a0_1 = some r) :
  Calls Tryd.prog 31 #[.agg #[.int .i64 a0_0, .int .i64 a0_1]] w fun e w' => e = .returned (.string r) ∧ Below w.heap.size w w' := by
 have hu31 := Tryd.underlying31
 have HB := Aside0.mk (Below.refl w.heap.size w)
 have H : ((some (([(⟨#[]⟩ : ByteArray), (⟨#[100]⟩ : ByteArray), (⟨#[116]⟩ : ByteArray)] : List ByteArray) : List ByteArray)).bind fun y117 => (if 0 ≤ (wrap64 (a0_1 - 1)) then (if (wrap64 (a0_1 - 1)) < (y117.length : Int) then ((spec_l1Num.f k a0_0).bind fun t121 => (if (rdOf ByteArray.empty y117 (wrap64 (a0_1 - 1))).size + t121.size ≤ 9223372036854775807 then (some ((rdOf ByteArray.empty y117 (wrap64 (a0_1 - 1))) ++ t121)) else (none))) else (none)) else (none))) = some r := h
 clear h
 obtain ⟨y117, hy117⟩ : ∃ y_ : List ByteArray, y_ = (([(⟨#[]⟩ : ByteArray), (⟨#[100]⟩ : ByteArray), (⟨#[116]⟩ : ByteArray)] : List ByteArray)) := ⟨_, rfl⟩
 replace H : (if 0 ≤ (wrap64 (a0_1 - 1)) then (if (wrap64 (a0_1 - 1)) < (y117.length : Int) then ((spec_l1Num.f k a0_0).bind fun t121 => (if (rdOf ByteArray.empty y117 (wrap64 (a0_1 - 1))).size + t121.size ≤ 9223372036854775807 then (some ((rdOf ByteArray.empty y117 (wrap64 (a0_1 - 1))) ++ t121)) else (none))) else (none)) else (none)) = some r := by first | (rw [hy117]; with_reducible exact H) | (have H2_ := (Option.bind_some _ _).symm.trans H; rw [hy117]; with_reducible exact H2_) | (have H2_ := (Option.bind_some _ _).symm.trans H; with_reducible exact H2_) | with_reducible exact H | (rw [hy117]; exact H) | exact H
 have Ny117 := Aside0.mk hy117
 clear hy117
 obtain ⟨ji2, hji2⟩ : ∃ j_ : Int, (wrap64 (a0_1 - 1)) = j_ := ⟨_, rfl⟩
 replace H : (if 0 ≤ (ji2) then (if (ji2) < (y117.length : Int) then ((spec_l1Num.f k a0_0).bind fun t121 => (if (rdOf ByteArray.empty y117 (ji2)).size + t121.size ≤ 9223372036854775807 then (some ((rdOf ByteArray.empty y117 (ji2)) ++ t121)) else (none))) else (none)) else (none)) = some r := by first | (rw [hji2] at H; exact H) | (simp only [hji2] at H ⊢; exact H)
 have hji2w : (IntKind.i64.wrap (a0_1 - 1)) = ji2 := (i64_w _).trans hji2
 by_cases c3 : 0 ≤ (ji2)
 ·
  rw [if_pos c3] at H
  have c3b0 : decide (0 ≤ (ji2)) = true := decide_eq_true c3
  clear c3
  by_cases c4 : (ji2) < (y117.length : Int)
  ·
   rw [if_pos c4] at H
   have c4b0 : decide ((ji2) < (y117.length : Int)) = true := decide_eq_true c4
   clear c4
   replace H := Option.bind_eq_some_iff.mp H
   obtain ⟨t121, A50, H⟩ := H
   replace H : (if (rdOf ByteArray.empty y117 (ji2)).size + t121.size ≤ 9223372036854775807 then (some ((rdOf ByteArray.empty y117 (ji2)) ++ t121)) else (none)) = some r := H
   have A5 := Aside0.mk A50
   clear A50
   by_cases c6 : (rdOf ByteArray.empty y117 (ji2)).size + t121.size ≤ 9223372036854775807
   ·
    rw [if_pos c6] at H
    have c6b0 := eq_true c6
    have c6b1 : decide ((rdOf ByteArray.empty y117 (ji2)).size + t121.size ≤ 9223372036854775807) = true := decide_eq_true c6
    try have c6b2 : (9223372036854775807 < (rdOf ByteArray.empty y117 (ji2)).size + t121.size) = False := eq_false (Nat.not_lt.2 c6)
    obtain rfl := Option.some.inj H
    go_enter Tryd.func31, Tryd.ntmps31
    try go_wp2_with (first | ((with_reducible refine gate_dst (N := 1) rfl ?_); refine box_event ?hg (N := 1) ?hd (cs := #[.int .i64 a0_0, .int .i64 a0_1]) (t := 31) ?hr ?_; (case hd => rfl); (case hg => rfl); (case hr => first | (go_simp; done) | (go_simp; rfl)); intro gb116 hg w7 hbox hb; have n0_ := Aside0.mk (below_step (by repeat (first | (with_reducible first | exact HB.out | apply below_alloc | apply pw_below_drewN | apply below_drew1) | exact HB.out)) hb); have n1_ := Aside0.mk (hbox); have n2_ := Aside0.mk ((by rw [hg]; exact (below_size (by repeat (first | (with_reducible first | exact HB.out | apply below_alloc | apply pw_below_drewN | apply below_drew1) | exact HB.out))) : w.heap.size ≤ gb116)); have n3_ := Aside0.mk ((by rw [hg]; exact (below_size (by repeat (first | (with_reducible first | exact HB.out | apply below_alloc | apply pw_below_drewN | apply below_drew1) | exact HB.out))) : w.heap.size ≤ gb116)); clear HB; have HB := n0_; have BK116 := n1_; have GW116 := n2_; have GE116 := n3_; clear n0_ n1_ n2_ n3_; clear hb hbox hg))
    have pi120 : (0 ≤ ((ji2) : Int)) = True := eq_true (of_decide_eq_true (by first | (with_reducible assumption) | assumption))
    have qi120 : ((ji2) < (y117.length : Int)) = True := eq_true (of_decide_eq_true (by first | (with_reducible assumption) | assumption))
    have n0_ := Aside0.mk (blk_drew BK116.out)
    have n1_ := Aside0.mk (below_drew1 HB.out)
    clear BK116
    clear HB
    have BK116 := n0_
    have HB := n1_
    clear n0_ n1_
    refine start_ (n := 11) (S := fun w' => True) (ds := []) #[false, false, false, false, false, false, false, false, false, false, false] (by kernel_rfl) rfl rfl trivial (fun hHeld => ?_); refine with_tabW spec_daText.tab1 spec_daText.bits1 (fun HT_ HW_ => ?_)
    generalize w7.drew = w8 at BK116 HB hHeld ⊢
    refine pure_ (i := 1) (N := some 4) (v := ?_) (a' := ?_) #[false, true, false, false, false, false, false, false, false, false, false] rfl rfl (any_of HT_.out (by kernel_rfl)) (fun _ _ _ h => h) (Or.inl ⟨by rfl, ?_⟩) ?_ ?_
    rotate_left
    ·
     intro w'
     go_simp
     with_reducible rfl
    rotate_left
    ·
     simp only [Act.put, List.setIfInBounds_toArray, List.set_cons_zero, List.set_cons_succ, i64_w, i32_w]
     rfl
    refine pure_ (i := 6) (N := some 9) (v := ?_) (a' := ?_) #[false, true, false, false, false, false, true, false, false, false, false] rfl rfl (any_of HT_.out (by kernel_rfl)) (fun _ _ _ h => h) (Or.inl ⟨by rfl, ?_⟩) ?_ ?_
    rotate_left
    ·
     intro w'
     go_simp
     with_reducible rfl
    rotate_left
    ·
     simp only [Act.put, List.setIfInBounds_toArray, List.set_cons_zero, List.set_cons_succ, i64_w, i32_w]
     rfl
    refine inv_at [0, 2, 3, 4, 5, 7, 8, 9, 10] (fun a0_ b a w' => ∃ (v118 : Value) (adz_v118 : Addr) (m4_ : Value), a = putSel a0_ b [(0, 3, v118), (2, 5, .int .i64 a0_1), (3, 6, .int .i64 ji2), (4, 7, m4_), (5, 8, .string (rdOf ByteArray.empty y117 (ji2))), (7, 10, .int .i64 a0_0), (8, 11, .string t121), (9, 12, .string ((rdOf ByteArray.empty y117 (ji2)) ++ t121)), (10, 2, .string ((rdOf ByteArray.empty y117 (ji2)) ++ t121))] ∧ (w'.heap[gb116]? = some (.cells #[.int .i64 a0_0, .int .i64 a0_1] 31 (0, 0))) ∧ (Below w.heap.size w w') ∧ (b 0 = true → Kd.R Kd.string 9 w' w.heap.size (fun _ => True) v118 y117) ∧ (b 0 = true → ∃ c_, (v118 : Value) = .slice (some adz_v118) y117.length c_) ∧ (b 4 = true → (m4_ : Value) = .pointer (some (adz_v118.add ((ji2)).toNat)))) HT_.out HW_.out (by kernel_rfl) (by kernel_rfl) ?_ ?_ ?_
    ·
     exact ⟨.bool false, ⟨0, 0, none⟩, .bool false, by simp only [putSel, Bool.false_eq_true, if_false], BK116.out, HB.out, fun h_ => absurd h_ (by decide), fun h_ => absurd h_ (by decide), fun h_ => absurd h_ (by decide)⟩
    ·
     skip
     clear BK116 HB
     refine steps_cons ?_ ?_
     ·
      rintro b a w' ⟨v118, adz_v118, m4_, ha, Q_BK116, Q_HB, Q_HO119, Q_HA_HO119, Q_X4_⟩ hb_ hon hoff
      refine ⟨_, rfl, fun K hK => ?_⟩
      replace ha := Aside0.mk ha
      have BK116 := Aside0.mk Q_BK116
      have HB := Aside0.mk Q_HB
      refine Kd.R_lit_step Kd.string _ 9 ?hg (N := 3) ?hd (xs := ([(⟨#[]⟩ : ByteArray), (⟨#[100]⟩ : ByteArray), (⟨#[116]⟩ : ByteArray)] : List ByteArray)) (inner := [.string (⟨#[]⟩ : ByteArray), .string (⟨#[100]⟩ : ByteArray), .string (⟨#[116]⟩ : ByteArray)]) (ok := fun _ => True) (okp := fun _ => True) ?hr ?hp (fun _ hk => hk) trivial (Below.refl _ _) (Nat.le_refl _) (by simp) ?_; (case hd => rfl); (case hg => rfl); (case hr => first | (go_simp; done) | (go_simp; rfl)); (case hp => exact (Reps.one (show Kd.M Kd.string _ _ _ (⟨#[]⟩ : ByteArray) [.string (⟨#[]⟩ : ByteArray)] from rfl) (Reps.one (show Kd.M Kd.string _ _ _ (⟨#[100]⟩ : ByteArray) [.string (⟨#[100]⟩ : ByteArray)] from rfl) (Reps.one (show Kd.M Kd.string _ _ _ (⟨#[116]⟩ : ByteArray) [.string (⟨#[116]⟩ : ByteArray)] from rfl) (Reps.none _ _)))))
      intro v118 w9 ho10 hb hg_ hnew_
      clear hg_ hnew_
      (first | rw [← Ny117.out] at ho10 | (simp only [Int.reduceToNat] at ho10; rw [← Ny117.out] at ho10))
      have n0_ := Aside0.mk (Kd.R_lower ho10 (below_size (by repeat (first | (with_reducible first | exact HB.out | apply below_alloc | apply pw_below_drewN | apply below_drew1 | refine below_set ?_ GE116.out) | exact HB.out))))
      have n1_ := Aside0.mk (blk_below (g := gb116) (o := .cells #[.int .i64 a0_0, .int .i64 a0_1] 31 (0, 0)) (by (with_reducible repeat (first | refine blk_drewN ?_ _ | refine blk_drew ?_ | refine blk_alloc ?_ _)); exact BK116.out) hb)
      have n2_ := Aside0.mk (below_step (by repeat (first | (with_reducible first | exact HB.out | apply below_alloc | apply pw_below_drewN | apply below_drew1 | refine below_set ?_ GE116.out) | exact HB.out)) hb)
      clear BK116
      clear HB
      have HO119 := n0_
      have BK116 := n1_
      have HB := n2_
      clear n0_ n1_ n2_
      clear hb ho10
      obtain ⟨Ao11, co11, eo11⟩ := Kd.R_slice HO119.out
      subst eo11
      obtain ⟨ado11, fo11, _⟩ := Kd.at_string (Kd.R_reads' HO119.out).2.2 0 (by decide) (by rw [Ny117.out]; simp)
      cases fo11
      refine hK.out _ _ ⟨.slice (some ado11) y117.length co11, ado11, m4_, (by rw [ha.out]; exact putSel_upk 0 hb_ rfl rfl rfl), (by (with_reducible repeat (first | refine blk_drewN ?_ _ | refine blk_drew ?_ | refine blk_alloc ?_ _)); exact BK116.out), (by repeat (first | (with_reducible first | exact HB.out | apply below_alloc | apply pw_below_drewN | apply below_drew1 | refine below_set ?_ GE116.out) | exact HB.out)), fun _ => (by (with_reducible repeat (first | apply Kd.R_alloc | apply Kd.R_drewN | apply Kd.R_drew)); exact HO119.out), fun _ => ⟨_, rfl⟩, fun h0_ => absurd ((hoff 4 (by kernel_rfl)).symm.trans h0_) (by decide)⟩
     refine steps_cons ?_ ?_
     ·
      rintro b a w' ⟨v118, adz_v118, m4_, ha, Q_BK116, Q_HB, Q_HO119, Q_HA_HO119, Q_X4_⟩ hb_ hon hoff
      refine ⟨_, rfl, fun K hK => ?_⟩
      have e4 : a.tmps[4]? = some (.pointer (some ⟨gb116, 1, none⟩)) := by rw [ha]; exact (putSel_off rfl).trans rfl
      replace ha := Aside0.mk ha
      have BK116 := Aside0.mk Q_BK116
      have HB := Aside0.mk Q_HB
      have hc0_ : w'.cell? ⟨gb116, 0, none⟩ = some (.int .i64 a0_0) := (blk_cell BK116.out 0).trans rfl
      have hc1_ : w'.cell? ⟨gb116, 1, none⟩ = some (.int .i64 a0_1) := (blk_cell BK116.out 1).trans rfl
      refine value_ (w1 := w') (v := .int .i64 a0_1) (by rfl) rfl ?_ ?_
      ·
       go_simp
       (try simp only [i64_w])
       try rfl
      refine hK.out _ _ ⟨v118, adz_v118, m4_, (by rw [ha.out]; exact putSel_upk 1 hb_ rfl rfl rfl), Q_BK116, Q_HB, Q_HO119, Q_HA_HO119, fun h0_ => absurd ((hoff 4 (by kernel_rfl)).symm.trans h0_) (by decide)⟩
     refine steps_cons ?_ ?_
     ·
      rintro b a w' ⟨v118, adz_v118, m4_, ha, Q_BK116, Q_HB, Q_HO119, Q_HA_HO119, Q_X4_⟩ hb_ hon hoff
      refine ⟨_, rfl, fun K hK => ?_⟩
      have e5 : a.tmps[5]? = some (.int .i64 a0_1) := by rw [ha]; exact putSel_on (e := (2, 5, .int .i64 a0_1)) 1 rfl rfl (hon 2 (by kernel_rfl)) rfl
      replace ha := Aside0.mk ha
      have BK116 := Aside0.mk Q_BK116
      have HB := Aside0.mk Q_HB
      refine value_ (w1 := w') (v := .int .i64 ji2) (by rfl) rfl ?_ ?_
      ·
       go_simp
       (try simp only [i64_w])
       try rfl
      refine hK.out _ _ ⟨v118, adz_v118, m4_, (by rw [ha.out]; exact putSel_upk 2 hb_ rfl rfl rfl), Q_BK116, Q_HB, Q_HO119, Q_HA_HO119, fun h0_ => absurd ((hoff 4 (by kernel_rfl)).symm.trans h0_) (by decide)⟩
     refine steps_cons ?_ ?_
     ·
      rintro b a w' ⟨v118, adz_v118, m4_, ha, Q_BK116, Q_HB, Q_HO119, Q_HA_HO119, Q_X4_⟩ hb_ hon hoff
      refine ⟨_, rfl, fun K hK => ?_⟩
      have e3 : a.tmps[3]? = some (v118) := by rw [ha]; exact putSel_on (e := (0, 3, v118)) 0 rfl rfl (hon 0 (by kernel_rfl)) rfl
      have e6 : a.tmps[6]? = some (.int .i64 ji2) := by rw [ha]; exact putSel_on (e := (3, 6, .int .i64 ji2)) 2 rfl rfl (hon 3 (by kernel_rfl)) rfl
      replace ha := Aside0.mk ha
      have BK116 := Aside0.mk Q_BK116
      have HB := Aside0.mk Q_HB
      have HO119 := Aside0.mk (Q_HO119 (hon 0 (by kernel_rfl)))
      have HA_HO119 := Aside0.mk (Q_HA_HO119 (hon 0 (by kernel_rfl)))
      obtain ⟨c_, hv_⟩ := HA_HO119.out
      rw [hv_] at e3
      refine value_ (w1 := w') (v := .pointer (some (adz_v118.add ((ji2)).toNat))) (by rfl) rfl ?_ ?_
      ·
       go_simp
       (try simp only [i64_w])
       try rfl
      refine hK.out _ _ ⟨v118, adz_v118, (.pointer (some (adz_v118.add ((ji2)).toNat))), (by rw [ha.out]; exact putSel_upk 3 hb_ rfl rfl rfl), Q_BK116, Q_HB, Q_HO119, Q_HA_HO119, fun _ => rfl⟩
     refine steps_cons ?_ ?_
     ·
      rintro b a w' ⟨v118, adz_v118, m4_, ha, Q_BK116, Q_HB, Q_HO119, Q_HA_HO119, Q_X4_⟩ hb_ hon hoff
      refine ⟨_, rfl, fun K hK => ?_⟩
      have e7 : a.tmps[7]? = some (m4_) := by rw [ha]; exact putSel_on (e := (4, 7, m4_)) 3 rfl rfl (hon 4 (by kernel_rfl)) rfl
      rw [Q_X4_ (hon 4 (by kernel_rfl))] at e7
      replace ha := Aside0.mk ha
      have BK116 := Aside0.mk Q_BK116
      have HB := Aside0.mk Q_HB
      have HO119 := Aside0.mk (Q_HO119 (hon 0 (by kernel_rfl)))
      have HA_HO119 := Aside0.mk (Q_HA_HO119 (hon 0 (by kernel_rfl)))
      obtain ⟨c_, hv_⟩ := HA_HO119.out
      have hF_ := HO119.out
      rw [hv_] at hF_
      obtain ⟨ad_, ea_, hx_⟩ := Kd.at_string (Kd.R_reads' hF_).2.2 (ji2) (of_eq_true pi120) (of_eq_true qi120)
      cases ea_
      refine value_ (w1 := w') (v := .string (rdOf ByteArray.empty y117 (ji2))) (by rfl) rfl ?_ ?_
      ·
       go_simp
       (try simp only [i64_w])
       try rfl
      refine hK.out _ _ ⟨v118, adz_v118, m4_, (by rw [ha.out]; exact putSel_upk 4 hb_ rfl rfl rfl), Q_BK116, Q_HB, Q_HO119, Q_HA_HO119, Q_X4_⟩
     refine steps_cons ?_ ?_
     ·
      rintro b a w' ⟨v118, adz_v118, m4_, ha, Q_BK116, Q_HB, Q_HO119, Q_HA_HO119, Q_X4_⟩ hb_ hon hoff
      refine ⟨_, rfl, fun K hK => ?_⟩
      have e9 : a.tmps[9]? = some (.pointer (some ⟨gb116, 0, none⟩)) := by rw [ha]; exact (putSel_off rfl).trans rfl
      replace ha := Aside0.mk ha
      have BK116 := Aside0.mk Q_BK116
      have HB := Aside0.mk Q_HB
      have hc0_ : w'.cell? ⟨gb116, 0, none⟩ = some (.int .i64 a0_0) := (blk_cell BK116.out 0).trans rfl
      have hc1_ : w'.cell? ⟨gb116, 1, none⟩ = some (.int .i64 a0_1) := (blk_cell BK116.out 1).trans rfl
      refine value_ (w1 := w') (v := .int .i64 a0_0) (by rfl) rfl ?_ ?_
      ·
       go_simp
       (try simp only [i64_w])
       try rfl
      refine hK.out _ _ ⟨v118, adz_v118, m4_, (by rw [ha.out]; exact putSel_upk 5 hb_ rfl rfl rfl), Q_BK116, Q_HB, Q_HO119, Q_HA_HO119, Q_X4_⟩
     refine steps_cons ?_ ?_
     ·
      rintro b a w' ⟨v118, adz_v118, m4_, ha, Q_BK116, Q_HB, Q_HO119, Q_HA_HO119, Q_X4_⟩ hb_ hon hoff
      refine ⟨_, rfl, fun K hK => ?_⟩
      have e10 : a.tmps[10]? = some (.int .i64 a0_0) := by rw [ha]; exact putSel_on (e := (7, 10, .int .i64 a0_0)) 5 rfl rfl (hon 7 (by kernel_rfl)) rfl
      replace ha := Aside0.mk ha
      have BK116 := Aside0.mk Q_BK116
      have HB := Aside0.mk Q_HB
      refine goes_ Tryd.func44 (by kernel_rfl) rfl #[.int .i64 a0_0] (by rfl) rfl rfl (by first | (simp only [List.map_toArray, List.map_cons, List.map_nil, Act.eval, Array.getD_eq_getD_getElem?, Option.getD_some, e10]; done) | (simp only [List.map_toArray, List.map_cons, List.map_nil, Act.eval, Array.getD_eq_getD_getElem?, Option.getD_some, e10]; rfl)) ?_
      with_reducible refine (spec_l1Num.calls k a0_0 t121 _ A5.out).mono ?_
      rintro e w9 ⟨rfl, hb⟩
      refine ⟨_, rfl, ?_⟩
      have n0_ := Aside0.mk (blk_below (g := gb116) (o := .cells #[.int .i64 a0_0, .int .i64 a0_1] 31 (0, 0)) (by (with_reducible repeat (first | refine blk_drewN ?_ _ | refine blk_drew ?_ | refine blk_alloc ?_ _)); exact BK116.out) hb)
      have n1_ := Aside0.mk (below_step (by repeat (first | (with_reducible first | exact HB.out | apply below_alloc | apply pw_below_drewN | apply below_drew1 | refine below_set ?_ GE116.out) | exact HB.out)) hb)
      have z_HO119 := fun (h0_ : b 0 = true) => (show Kd.R Kd.string 9 w9 w.heap.size (fun _ => True) v118 y117 from by first | exact (Kd.R_below (by (with_reducible repeat (first | apply Kd.R_alloc | apply Kd.R_drewN | apply Kd.R_drew)); exact (Q_HO119 h0_)) hb) | exact Kd.R_mono (Kd.R_below (by (with_reducible repeat (first | apply Kd.R_alloc | apply Kd.R_drewN | apply Kd.R_drew)); exact (Q_HO119 h0_)) hb) (fun _ h_ => by first | trivial | exact h_ | exact h_.1))
      clear BK116
      clear HB
      have BK116 := n0_
      have HB := n1_
      clear n0_ n1_
      (try clear hb)
      (try clear hb2)
      (try clear hk)
      (try clear hi)
      refine hK.out _ _ ⟨v118, adz_v118, m4_, (by rw [ha.out]; exact putSel_upk 6 hb_ rfl rfl rfl), (by (with_reducible repeat (first | refine blk_drewN ?_ _ | refine blk_drew ?_ | refine blk_alloc ?_ _)); exact BK116.out), (by repeat (first | (with_reducible first | exact HB.out | apply below_alloc | apply pw_below_drewN | apply below_drew1 | refine below_set ?_ GE116.out) | exact HB.out)), z_HO119, Q_HA_HO119, Q_X4_⟩
     refine steps_cons ?_ ?_
     ·
      rintro b a w' ⟨v118, adz_v118, m4_, ha, Q_BK116, Q_HB, Q_HO119, Q_HA_HO119, Q_X4_⟩ hb_ hon hoff
      refine ⟨_, rfl, fun K hK => ?_⟩
      have e8 : a.tmps[8]? = some (.string (rdOf ByteArray.empty y117 (ji2))) := by rw [ha]; exact putSel_on (e := (5, 8, .string (rdOf ByteArray.empty y117 (ji2)))) 4 rfl rfl (hon 5 (by kernel_rfl)) rfl
      have e11 : a.tmps[11]? = some (.string t121) := by rw [ha]; exact putSel_on (e := (8, 11, .string t121)) 6 rfl rfl (hon 8 (by kernel_rfl)) rfl
      replace ha := Aside0.mk ha
      have BK116 := Aside0.mk Q_BK116
      have HB := Aside0.mk Q_HB
      have HO119 := Aside0.mk (Q_HO119 (hon 0 (by kernel_rfl)))
      have HA_HO119 := Aside0.mk (Q_HA_HO119 (hon 0 (by kernel_rfl)))
      refine value_ (w1 := w') (v := .string ((rdOf ByteArray.empty y117 (ji2)) ++ t121)) (by rfl) rfl ?_ ?_
      ·
       go_simp
       (try simp only [i64_w])
       try rfl
      refine hK.out _ _ ⟨v118, adz_v118, m4_, (by rw [ha.out]; exact putSel_upk 7 hb_ rfl rfl rfl), Q_BK116, Q_HB, Q_HO119, Q_HA_HO119, Q_X4_⟩
     refine steps_cons ?_ ?_
     ·
      rintro b a w' ⟨v118, adz_v118, m4_, ha, Q_BK116, Q_HB, Q_HO119, Q_HA_HO119, Q_X4_⟩ hb_ hon hoff
      refine ⟨_, rfl, fun K hK => ?_⟩
      have e12 : a.tmps[12]? = some (.string ((rdOf ByteArray.empty y117 (ji2)) ++ t121)) := by rw [ha]; exact putSel_on (e := (9, 12, .string ((rdOf ByteArray.empty y117 (ji2)) ++ t121))) 7 rfl rfl (hon 9 (by kernel_rfl)) rfl
      replace ha := Aside0.mk ha
      have BK116 := Aside0.mk Q_BK116
      have HB := Aside0.mk Q_HB
      have HO119 := Aside0.mk (Q_HO119 (hon 0 (by kernel_rfl)))
      have HA_HO119 := Aside0.mk (Q_HA_HO119 (hon 0 (by kernel_rfl)))
      refine value_ (w1 := w') (v := .string ((rdOf ByteArray.empty y117 (ji2)) ++ t121)) (by rfl) rfl ?_ ?_
      ·
       go_simp
       (try simp only [i64_w])
       try rfl
      refine hK.out _ _ ⟨v118, adz_v118, m4_, (by rw [ha.out]; exact putSel_upk 8 hb_ rfl rfl rfl), Q_BK116, Q_HB, Q_HO119, Q_HA_HO119, Q_X4_⟩
     exact steps_nil
    rintro b a w13 hall ⟨v118, adz_v118, m4_, ha, Q_BK116, Q_HB, Q_HO119, Q_HA_HO119, Q_X4_⟩
    clear BK116 HB
    have hb0_ := hall 0 (by kernel_rfl)
    have hb2_ := hall 2 (by kernel_rfl)
    have hb3_ := hall 3 (by kernel_rfl)
    have hb4_ := hall 4 (by kernel_rfl)
    have hb5_ := hall 5 (by kernel_rfl)
    have hb7_ := hall 7 (by kernel_rfl)
    have hb8_ := hall 8 (by kernel_rfl)
    have hb9_ := hall 9 (by kernel_rfl)
    have hb10_ := hall 10 (by kernel_rfl)
    subst ha
    obtain rfl := Q_X4_ hb4_
    simp only [putSel, hb0_, hb2_, hb3_, hb4_, hb5_, hb7_, hb8_, hb9_, hb10_, if_true, Act.put, List.setIfInBounds_toArray, List.set_cons_zero, List.set_cons_succ]
    have BK116 := Aside0.mk Q_BK116
    clear Q_BK116
    have HB := Aside0.mk Q_HB
    clear Q_HB
    have HO119 := Aside0.mk (Q_HO119 hb0_)
    clear Q_HO119
    have HA_HO119 := Aside0.mk (Q_HA_HO119 hb0_)
    clear Q_HA_HO119
    clear hall hb0_ hb2_ hb3_ hb4_ hb5_ hb7_ hb8_ hb9_ hb10_
    obtain ⟨co14, eo14⟩ := HA_HO119.out
    clear HA_HO119
    subst eo14
    try go_wp2
    go_ret
    exact ⟨by first | rfl | (simp [errW_none, errW_some] <;> rfl) | (simp only [← hji2]; first | rfl | (simp [errW_none, errW_some] <;> rfl)) | (simp [*, errW_none, errW_some] <;> rfl), by repeat (first | (with_reducible first | exact HB.out | apply below_alloc | apply pw_below_drewN | apply below_drew1 | refine below_set ?_ GE116.out) | exact HB.out)⟩
   ·
    rw [if_neg c6] at H
    exact absurd H (by simp)
  ·
   rw [if_neg c4] at H
   exact absurd H (by simp)
 ·
  rw [if_neg c3] at H
  exact absurd H (by simp)

end Go.Proofs.YtgdkedcahcpofaaDoor.PA
-- narrow
