/- Printed by this session's drive.py (the kit's print.py with hooks): functions of the seat as plain Lean functions, and the proofs that the calls do what these say. -/
import Derived.Test.YtklfodjfpfedkaaDoorPAx0
import Derived.Test.YtklfodjfpfedkaaDoorPAx23
namespace Go.Proofs.YtklfodjfpfedkaaDoor.PA
open Go.RowKit Go.Proofs.YtklfodjfpfedkaaDoorW.PrintWords Go.Proofs.YtklfodjfpfedkaaDoorW.PrintLast Go.Proofs.YtklfodjfpfedkaaDoorW.PrintMore
open Go.Proofs.YtklfodjfpfedkaaDoorH
attribute [local go_sem] max2_int min2_int max_two min_two max_three min_three max_four min_four   -- for this text's walks alone
set_option linter.unusedVariables false
set_option linter.unusedSimpArgs false

/-! ### impl_Frame_whole: function 35 -/
def impl_Frame_whole.l0 : Nat → Bool → ByteArray → Int → Int → Bool → Int → Option (ByteArray × Int)
  | 0, _, _, _, _, _, _ => none
  | k + 1, x1, x6, x7, x215000, x215001, x215002 => (impl_Frame_next.f x215000 x215001 x215002).bind fun t215 => (if t215.toList = ([] : List UInt8) then (some (x6, x7)) else ((impl_Frame_next.f x215000 x215001 x215002).bind fun t216 => (if 0 ≤ 1 then (if 1 ≤ (t216.size : Int) then (if x1 = true then (if 0 ≤ (wrap64 ((t216.size : Int) - 1)) then (if (wrap64 ((t216.size : Int) - 1)) ≤ (t216.size : Int) then (if x6.size + (t216.extract ((wrap64 ((t216.size : Int) - 1)) : Int).toNat t216.size).size ≤ 9223372036854775807 then (if 0 < ((t216.extract ((wrap64 ((t216.size : Int) - 1)) : Int).toNat t216.size).size : Int) then ((impl_Frame_pot.f x215000 x215001 x215002).bind fun bt217 => (impl_Frame_whole.l0 k x1 (x6 ++ (t216.extract ((wrap64 ((t216.size : Int) - 1)) : Int).toNat t216.size)) (wrap64 (x7 + (((bt (t216.extract ((wrap64 ((t216.size : Int) - 1)) : Int).toNat t216.size) 0) - 48) % 256))) bt217.1 bt217.2.1 bt217.2.2)) else (none)) else (none)) else (none)) else (none)) else (if x6.size + (t216.extract 0 1).size ≤ 9223372036854775807 then (if 0 < ((t216.extract 0 1).size : Int) then ((impl_Frame_pot.f x215000 x215001 x215002).bind fun bt220 => (impl_Frame_whole.l0 k x1 (x6 ++ (t216.extract 0 1)) (wrap64 (x7 + (((bt (t216.extract 0 1) 0) - 48) % 256))) bt220.1 bt220.2.1 bt220.2.2)) else (none)) else (none))) else (none)) else (none))))
def impl_Frame_whole.f (k : Nat) (a0_0 : Int) (a0_1 : Bool) (a0_2 : Int) (a1 : Bool) : Option (ByteArray × Int) := impl_Frame_whole.l0 k a1 (⟨#[]⟩ : ByteArray) 0 a0_0 a0_1 a0_2
theorem impl_Frame_whole.mono_l : ∀ k, (∀ y0 y1 y2 y3 y4 y5, LeO (impl_Frame_whole.l0 k y0 y1 y2 y3 y4 y5) (impl_Frame_whole.l0 (k + 1) y0 y1 y2 y3 y4 y5))
  | 0 => fun _ _ _ _ _ _ r h => by simp [impl_Frame_whole.l0] at h
  | k + 1 => by
    have ih0 := impl_Frame_whole.mono_l k
    · intro y0 y1 y2 y3 y4 y5
      unfold impl_Frame_whole.l0
      repeat' first
      | (with_reducible exact ih0 _ _ _ _ _ _)
      | (with_reducible exact LeO.refl _)
      | (with_reducible exact LeO.none _)
      | (with_reducible refine LeO.ite ?_ ?_)
      | (with_reducible refine LeO.bind ?_ (fun _ => ?_))
      | exact ih0 _ _ _ _ _ _
      | exact LeO.none _
      | refine LeO.ite ?_ ?_
      | refine LeO.bind ?_ (fun _ => ?_)
theorem impl_Frame_whole.mono : ∀ a0 a1 a2 a3 k, LeO (impl_Frame_whole.f k a0 a1 a2 a3) (impl_Frame_whole.f (k + 1) a0 a1 a2 a3) := by
  intro a0 a1 a2 a3 k
  have ih0 := impl_Frame_whole.mono_l k
  unfold impl_Frame_whole.f
  repeat' first
      | (with_reducible exact ih0 _ _ _ _ _ _)
      | (with_reducible exact LeO.refl _)
      | (with_reducible exact LeO.none _)
      | (with_reducible refine LeO.ite ?_ ?_)
      | (with_reducible refine LeO.bind ?_ (fun _ => ?_))
      | exact ih0 _ _ _ _ _ _
      | exact LeO.none _
      | refine LeO.ite ?_ ?_
      | refine LeO.bind ?_ (fun _ => ?_)
set_option maxHeartbeats 8000000 in
set_option maxRecDepth 100000 in
theorem impl_Frame_whole.calls (k : Nat) (a0_0 : Int) (a0_1 : Bool) (a0_2 : Int) (a1 : Bool) (r1 : ByteArray) (r2 : Int) (w : World) (h : impl_Frame_whole.f k a0_0 a0_1 a0_2 a1 = some (r1, r2)) :
    Calls Tryd.prog 35 #[.agg #[.int .i64 a0_0, .bool a0_1, .int .i64 a0_2], .bool a1] w fun e w' => e = .returned (.tuple #[.string r1, .int .i64 r2]) ∧ Below w.heap.size w w' := by
  have hu26 := Tryd.underlying26
  have HB := Aside0.mk (Below.refl w.heap.size w)
  have H : (impl_Frame_whole.l0 k a1 (⟨#[]⟩ : ByteArray) 0 a0_0 a0_1 a0_2) = some (r1, r2) := h
  clear h
  have H' := Aside0.mk H
  clear H
  go_enter Tryd.func35, Tryd.ntmps35
  go_wp2_with (first | ((with_reducible refine gate_dst (N := 2) rfl ?_); refine box_event ?hg (N := 2) ?hd (cs := #[.int .i64 a0_0, .bool a0_1, .int .i64 a0_2]) (t := 26) ?hr ?_; (case hd => rfl); (case hg => rfl); (case hr => first | (go_simp; done) | (go_simp; rfl)); intro gb214 hg w3 hbox hb; have n0_ := Aside0.mk (below_step (by repeat (first | (with_reducible first | exact HB.out | apply below_alloc | apply pw_below_drewN | apply below_drew1) | exact HB.out)) hb); have n1_ := Aside0.mk (hbox); have n2_ := Aside0.mk ((by rw [hg]; exact (below_size (by repeat (first | (with_reducible first | exact HB.out | apply below_alloc | apply pw_below_drewN | apply below_drew1) | exact HB.out))) : w.heap.size ≤ gb214)); have n3_ := Aside0.mk ((by rw [hg]; exact (below_size (by repeat (first | (with_reducible first | exact HB.out | apply below_alloc | apply pw_below_drewN | apply below_drew1) | exact HB.out))) : w.heap.size ≤ gb214)); clear HB; have HB := n0_; have BK214 := n1_; have GW214 := n2_; have GE214 := n3_; clear n0_ n1_ n2_ n3_; clear hb hbox hg))
  go_loopg [6, 7] k (fun kq v6 v7 w' => ∃ (x6_1 : ByteArray) (x7_1 : Int) (x215000_1 : Int) (x215001_1 : Bool) (x215002_1 : Int), v6 = .string x6_1 ∧ v7 = .int .i64 x7_1 ∧ Aside0 (impl_Frame_whole.l0 kq a1 x6_1 x7_1 x215000_1 x215001_1 x215002_1 = some (r1, r2)) ∧ Aside0 (kq ≤ k) ∧ Aside0 (w'.heap[gb214]? = some (.cells #[.int .i64 x215000_1, .bool x215001_1, .int .i64 x215002_1] 26 (0, 0))) ∧ Aside0 (Below w.heap.size w w'))
  case atStart => exact ⟨((⟨#[]⟩ : ByteArray)), (0), (a0_0), (a0_1), (a0_2), (by first | rfl | (simp; done) | (simp [*]; done)), (by first | rfl | (simp; done) | (simp [*]; done) | (simp only [bneNil, eqNil, Bool.not_not]; done) | (simp [bneNil, eqNil]; done)), H', ⟨Nat.le_refl _⟩, ⟨by (with_reducible repeat (first | refine blk_drewN ?_ _ | refine blk_drew ?_ | refine blk_alloc ?_ _)); exact BK214.out⟩, ⟨by repeat (first | (with_reducible first | exact HB.out | apply below_alloc | apply pw_below_drewN | apply below_drew1 | refine below_set ?_ GE214.out) | exact HB.out)⟩⟩
  case round =>
    clear H'
    try clear p2
    try clear c3
    obtain ⟨x6_1, x7_1, x215000_1, x215001_1, x215002_1, rfl, rfl, HA, HK1, BK214, HB⟩ := hrel
    cases gk with
    | zero => exact absurd HA.out (by simp [impl_Frame_whole.l0])
    | succ k1 =>
      have H := HA.out
      clear HA
      simp only [impl_Frame_whole.l0] at H
      replace H := Option.bind_eq_some_iff.mp H
      obtain ⟨t215, A40, H⟩ := H
      replace H : (if t215.toList = ([] : List UInt8) then (some (x6_1, x7_1)) else ((impl_Frame_next.f x215000_1 x215001_1 x215002_1).bind fun t216 => (if 0 ≤ 1 then (if 1 ≤ (t216.size : Int) then (if a1 = true then (if 0 ≤ (wrap64 ((t216.size : Int) - 1)) then (if (wrap64 ((t216.size : Int) - 1)) ≤ (t216.size : Int) then (if x6_1.size + (t216.extract ((wrap64 ((t216.size : Int) - 1)) : Int).toNat t216.size).size ≤ 9223372036854775807 then (if 0 < ((t216.extract ((wrap64 ((t216.size : Int) - 1)) : Int).toNat t216.size).size : Int) then ((impl_Frame_pot.f x215000_1 x215001_1 x215002_1).bind fun bt217 => (impl_Frame_whole.l0 k1 a1 (x6_1 ++ (t216.extract ((wrap64 ((t216.size : Int) - 1)) : Int).toNat t216.size)) (wrap64 (x7_1 + (((bt (t216.extract ((wrap64 ((t216.size : Int) - 1)) : Int).toNat t216.size) 0) - 48) % 256))) bt217.1 bt217.2.1 bt217.2.2)) else (none)) else (none)) else (none)) else (none)) else (if x6_1.size + (t216.extract 0 1).size ≤ 9223372036854775807 then (if 0 < ((t216.extract 0 1).size : Int) then ((impl_Frame_pot.f x215000_1 x215001_1 x215002_1).bind fun bt220 => (impl_Frame_whole.l0 k1 a1 (x6_1 ++ (t216.extract 0 1)) (wrap64 (x7_1 + (((bt (t216.extract 0 1) 0) - 48) % 256))) bt220.1 bt220.2.1 bt220.2.2)) else (none)) else (none))) else (none)) else (none)))) = some (r1, r2) := H
      have A4 := Aside0.mk A40
      clear A40
      by_cases c5 : t215.toList = ([] : List UInt8)
      · rw [if_pos c5] at H
        have c5b0 : (t215.toList == ([] : List UInt8)) = true := beq_iff_eq.mpr c5
        have c5b1 : (t215.toList != ([] : List UInt8)) = false := bne_eq_false_iff_eq.mpr c5
        clear c5
        simp only [Option.some.injEq, Prod.mk.injEq] at H
        obtain ⟨rfl, rfl⟩ := H
        have hcz6_0 : wr.cell? ⟨gb214, 0, none⟩ = some (.int .i64 x215000_1) := (blk_cell BK214.out 0).trans rfl
        have hcz6_1 : wr.cell? ⟨gb214, 1, none⟩ = some (.bool x215001_1) := (blk_cell BK214.out 1).trans rfl
        have hcz6_2 : wr.cell? ⟨gb214, 2, none⟩ = some (.int .i64 x215002_1) := (blk_cell BK214.out 2).trans rfl
        have hfz6_0 := blk_frozen BK214.out 0
        have hfz6_1 := blk_frozen BK214.out 1
        have hfz6_2 := blk_frozen BK214.out 2
        go_wp2_with (first | ((with_reducible refine gate_callee (f := 43) rfl ?_); refine goesL_ (some 11) rfl rfl Tryd.func43 (by kernel_rfl) rfl #[.agg #[.int .i64 x215000_1, .bool x215001_1, .int .i64 x215002_1]] rfl (by (try simp only [List.map_toArray, List.map_cons, List.map_nil]); first | done | rfl | (simp only [List.length_drop, List.length_take]; rfl)) ?_; (with_reducible refine (impl_Frame_next.calls x215000_1 x215001_1 x215002_1 t215 _ A4.out).mono ?_); rintro e w7 ⟨rfl, hb⟩; refine ⟨_, rfl, ?_⟩; have n0_ := Aside0.mk (blk_below (g := gb214) (o := .cells #[.int .i64 x215000_1, .bool x215001_1, .int .i64 x215002_1] 26 (0, 0)) (by (with_reducible repeat (first | refine blk_drewN ?_ _ | refine blk_drew ?_ | refine blk_alloc ?_ _)); exact BK214.out) hb); have n1_ := Aside0.mk (below_step (by repeat (first | (with_reducible first | exact HB.out | apply below_alloc | apply pw_below_drewN | apply below_drew1 | refine below_set ?_ GE214.out) | exact HB.out)) hb); clear BK214; clear HB; have BK214 := n0_; have HB := n1_; clear n0_ n1_; (try clear hb); (try clear hb2); (try clear hk); (try clear hi)))
        go_ret2
        exact ⟨by first | rfl | (simp [errW_none, errW_some] <;> rfl) | (simp [*, errW_none, errW_some] <;> rfl), by repeat (first | (with_reducible first | exact HB.out | apply below_alloc | apply pw_below_drewN | apply below_drew1 | refine below_set ?_ GE214.out) | exact HB.out)⟩
      · rw [if_neg c5] at H
        have c5b0 : (t215.toList == ([] : List UInt8)) = false := beq_eq_false_iff_ne.mpr c5
        have c5b1 : (t215.toList != ([] : List UInt8)) = true := bne_iff_ne.mpr c5
        replace H := Option.bind_eq_some_iff.mp H
        obtain ⟨t216, A80, H⟩ := H
        replace H : (if 0 ≤ 1 then (if 1 ≤ (t216.size : Int) then (if a1 = true then (if 0 ≤ (wrap64 ((t216.size : Int) - 1)) then (if (wrap64 ((t216.size : Int) - 1)) ≤ (t216.size : Int) then (if x6_1.size + (t216.extract ((wrap64 ((t216.size : Int) - 1)) : Int).toNat t216.size).size ≤ 9223372036854775807 then (if 0 < ((t216.extract ((wrap64 ((t216.size : Int) - 1)) : Int).toNat t216.size).size : Int) then ((impl_Frame_pot.f x215000_1 x215001_1 x215002_1).bind fun bt217 => (impl_Frame_whole.l0 k1 a1 (x6_1 ++ (t216.extract ((wrap64 ((t216.size : Int) - 1)) : Int).toNat t216.size)) (wrap64 (x7_1 + (((bt (t216.extract ((wrap64 ((t216.size : Int) - 1)) : Int).toNat t216.size) 0) - 48) % 256))) bt217.1 bt217.2.1 bt217.2.2)) else (none)) else (none)) else (none)) else (none)) else (if x6_1.size + (t216.extract 0 1).size ≤ 9223372036854775807 then (if 0 < ((t216.extract 0 1).size : Int) then ((impl_Frame_pot.f x215000_1 x215001_1 x215002_1).bind fun bt220 => (impl_Frame_whole.l0 k1 a1 (x6_1 ++ (t216.extract 0 1)) (wrap64 (x7_1 + (((bt (t216.extract 0 1) 0) - 48) % 256))) bt220.1 bt220.2.1 bt220.2.2)) else (none)) else (none))) else (none)) else (none)) = some (r1, r2) := H
        have A8 := Aside0.mk A80
        clear A80
        by_cases c9 : 0 ≤ 1
        · rw [if_pos c9] at H
          have c9b0 := eq_true c9
          have c9b1 : decide (0 ≤ 1) = true := decide_eq_true c9
          clear c9
          by_cases c10 : 1 ≤ (t216.size : Int)
          · rw [if_pos c10] at H
            have c10b0 := eq_true c10
            have c10b1 : decide (1 ≤ (t216.size : Int)) = true := decide_eq_true c10
            clear c10
            by_cases c11 : a1 = true
            · subst c11
              have H1 : (if 0 ≤ (wrap64 ((t216.size : Int) - 1)) then (if (wrap64 ((t216.size : Int) - 1)) ≤ (t216.size : Int) then (if x6_1.size + (t216.extract ((wrap64 ((t216.size : Int) - 1)) : Int).toNat t216.size).size ≤ 9223372036854775807 then (if 0 < ((t216.extract ((wrap64 ((t216.size : Int) - 1)) : Int).toNat t216.size).size : Int) then ((impl_Frame_pot.f x215000_1 x215001_1 x215002_1).bind fun bt217 => (impl_Frame_whole.l0 k1 true (x6_1 ++ (t216.extract ((wrap64 ((t216.size : Int) - 1)) : Int).toNat t216.size)) (wrap64 (x7_1 + (((bt (t216.extract ((wrap64 ((t216.size : Int) - 1)) : Int).toNat t216.size) 0) - 48) % 256))) bt217.1 bt217.2.1 bt217.2.2)) else (none)) else (none)) else (none)) else (none)) = some (r1, r2) := by rw [if_pos rfl] at H; exact H
              clear H
              have H := H1
              clear H1
              obtain ⟨ji12, hji12⟩ : ∃ j_ : Int, (wrap64 ((t216.size : Int) - 1)) = j_ := ⟨_, rfl⟩
              replace H : (if 0 ≤ (ji12) then (if (ji12) ≤ (t216.size : Int) then (if x6_1.size + (t216.extract ((ji12) : Int).toNat t216.size).size ≤ 9223372036854775807 then (if 0 < ((t216.extract ((ji12) : Int).toNat t216.size).size : Int) then ((impl_Frame_pot.f x215000_1 x215001_1 x215002_1).bind fun bt217 => (impl_Frame_whole.l0 k1 true (x6_1 ++ (t216.extract ((ji12) : Int).toNat t216.size)) (wrap64 (x7_1 + (((bt (t216.extract ((ji12) : Int).toNat t216.size) 0) - 48) % 256))) bt217.1 bt217.2.1 bt217.2.2)) else (none)) else (none)) else (none)) else (none)) = some (r1, r2) := by first | (rw [hji12] at H; exact H) | (simp only [hji12] at H ⊢; exact H)
              (try rw [hji12] at A4)
              (try rw [hji12] at A8)
              have hji12w : (IntKind.i64.wrap ((t216.size : Int) - 1)) = ji12 := (i64_w _).trans hji12
              by_cases c13 : 0 ≤ (ji12)
              · rw [if_pos c13] at H
                have c13b0 := eq_true c13
                have c13b1 : decide (0 ≤ (ji12)) = true := decide_eq_true c13
                clear c13
                by_cases c14 : (ji12) ≤ (t216.size : Int)
                · rw [if_pos c14] at H
                  have c14b0 := eq_true c14
                  have c14b1 : decide ((ji12) ≤ (t216.size : Int)) = true := decide_eq_true c14
                  clear c14
                  by_cases c15 : x6_1.size + (t216.extract ((ji12) : Int).toNat t216.size).size ≤ 9223372036854775807
                  · rw [if_pos c15] at H
                    have c15b0 := eq_true c15
                    have c15b1 : decide (x6_1.size + (t216.extract ((ji12) : Int).toNat t216.size).size ≤ 9223372036854775807) = true := decide_eq_true c15
                    try have c15b8 := of_decide_eq_true c15b1
                    (try simp only [ByteArray.size_extract, Nat.min_self, Nat.sub_zero] at c15b8)
                    try replace c15b8 := eq_true c15b8
                    try have c15b2 : (9223372036854775807 < x6_1.size + (t216.extract ((ji12) : Int).toNat t216.size).size) = False := eq_false (Nat.not_lt.2 c15)
                    by_cases c16 : 0 < ((t216.extract ((ji12) : Int).toNat t216.size).size : Int)
                    · rw [if_pos c16] at H
                      have c16b0 : decide (0 < ((t216.extract ((ji12) : Int).toNat t216.size).size : Int)) = true := decide_eq_true c16
                      have c16b1 : decide (0 < (t216.extract ((ji12) : Int).toNat t216.size).size) = true := decide_eq_true (by omega)
                      try have c16b8 := of_decide_eq_true c16b1
                      (try simp only [ByteArray.size_extract, Nat.min_self, Nat.sub_zero] at c16b8)
                      try replace c16b8 := eq_true c16b8
                      clear c16
                      replace H := Option.bind_eq_some_iff.mp H
                      obtain ⟨⟨t217, t218, t219⟩, A180, H⟩ := H
                      replace H : (impl_Frame_whole.l0 k1 true (x6_1 ++ (t216.extract ((ji12) : Int).toNat t216.size)) (wrap64 (x7_1 + (((bt (t216.extract ((ji12) : Int).toNat t216.size) 0) - 48) % 256))) t217 t218 t219) = some (r1, r2) := H
                      have A18 := Aside0.mk A180
                      clear A180
                      have H' := Aside0.mk H
                      clear H
                      have hcz19_0 : wr.cell? ⟨gb214, 0, none⟩ = some (.int .i64 x215000_1) := (blk_cell BK214.out 0).trans rfl
                      have hcz19_1 : wr.cell? ⟨gb214, 1, none⟩ = some (.bool x215001_1) := (blk_cell BK214.out 1).trans rfl
                      have hcz19_2 : wr.cell? ⟨gb214, 2, none⟩ = some (.int .i64 x215002_1) := (blk_cell BK214.out 2).trans rfl
                      have hfz19_0 := blk_frozen BK214.out 0
                      have hfz19_1 := blk_frozen BK214.out 1
                      have hfz19_2 := blk_frozen BK214.out 2
                      go_wp2_with (first | ((with_reducible refine gate_callee (f := 43) rfl ?_); refine goesL_ (some 11) rfl rfl Tryd.func43 (by kernel_rfl) rfl #[.agg #[.int .i64 x215000_1, .bool x215001_1, .int .i64 x215002_1]] rfl (by (try simp only [List.map_toArray, List.map_cons, List.map_nil]); first | done | rfl | (simp only [List.length_drop, List.length_take]; rfl)) ?_; (with_reducible refine (impl_Frame_next.calls x215000_1 x215001_1 x215002_1 t215 _ A4.out).mono ?_); rintro e w20 ⟨rfl, hb⟩; refine ⟨_, rfl, ?_⟩; have n0_ := Aside0.mk (blk_below (g := gb214) (o := .cells #[.int .i64 x215000_1, .bool x215001_1, .int .i64 x215002_1] 26 (0, 0)) (by (with_reducible repeat (first | refine blk_drewN ?_ _ | refine blk_drew ?_ | refine blk_alloc ?_ _)); exact BK214.out) hb); have n1_ := Aside0.mk (below_step (by repeat (first | (with_reducible first | exact HB.out | apply below_alloc | apply pw_below_drewN | apply below_drew1 | refine below_set ?_ GE214.out) | exact HB.out)) hb); clear BK214; clear HB; have BK214 := n0_; have HB := n1_; clear n0_ n1_; (try clear hb); (try clear hb2); (try clear hk); (try clear hi); have hcz21_0 : w20.cell? ⟨gb214, 0, none⟩ = some (.int .i64 x215000_1) := (blk_cell BK214.out 0).trans rfl; have hcz21_1 : w20.cell? ⟨gb214, 1, none⟩ = some (.bool x215001_1) := (blk_cell BK214.out 1).trans rfl; have hcz21_2 : w20.cell? ⟨gb214, 2, none⟩ = some (.int .i64 x215002_1) := (blk_cell BK214.out 2).trans rfl; have hfz21_0 := blk_frozen BK214.out 0; have hfz21_1 := blk_frozen BK214.out 1; have hfz21_2 := blk_frozen BK214.out 2) | ((with_reducible refine gate_callee (f := 43) rfl ?_); refine goesL_ (some 14) rfl rfl Tryd.func43 (by kernel_rfl) rfl #[.agg #[.int .i64 x215000_1, .bool x215001_1, .int .i64 x215002_1]] rfl (by (try simp only [List.map_toArray, List.map_cons, List.map_nil]); first | done | rfl | (simp only [List.length_drop, List.length_take]; rfl)) ?_; (with_reducible refine (impl_Frame_next.calls x215000_1 x215001_1 x215002_1 t216 _ A8.out).mono ?_); rintro e w22 ⟨rfl, hb⟩; refine ⟨_, rfl, ?_⟩; have n0_ := Aside0.mk (blk_below (g := gb214) (o := .cells #[.int .i64 x215000_1, .bool x215001_1, .int .i64 x215002_1] 26 (0, 0)) (by (with_reducible repeat (first | refine blk_drewN ?_ _ | refine blk_drew ?_ | refine blk_alloc ?_ _)); exact BK214.out) hb); have n1_ := Aside0.mk (below_step (by repeat (first | (with_reducible first | exact HB.out | apply below_alloc | apply pw_below_drewN | apply below_drew1 | refine below_set ?_ GE214.out) | exact HB.out)) hb); clear BK214; clear HB; have BK214 := n0_; have HB := n1_; clear n0_ n1_; (try clear hb); (try clear hb2); (try clear hk); (try clear hi); have p17 : 0 ≤ (0 : Int) := (by omega); have q17 : 0 < (t216.extract ((ji12) : Int).toNat t216.size).size := (by have : (0 : Int) < ((t216.extract ((ji12) : Int).toNat t216.size).size : Int) := of_decide_eq_true (by first | (with_reducible assumption) | assumption); omega); have hx17 : ∀ h : 0 < (t216.extract ((ji12) : Int).toNat t216.size).size, (((t216.extract ((ji12) : Int).toNat t216.size)[0]'h).toNat : Int) = bt (t216.extract ((ji12) : Int).toNat t216.size) 0 := bt_at (t216.extract ((ji12) : Int).toNat t216.size) 0; clear p17; have qi17 : (0 < ((t216.extract ((ji12) : Int).toNat t216.size).size : Int)) = True := eq_true (of_decide_eq_true (by first | (with_reducible assumption) | assumption)); replace q17 := eq_true q17; have hcz23_0 : w22.cell? ⟨gb214, 0, none⟩ = some (.int .i64 x215000_1) := (blk_cell BK214.out 0).trans rfl; have hcz23_1 : w22.cell? ⟨gb214, 1, none⟩ = some (.bool x215001_1) := (blk_cell BK214.out 1).trans rfl; have hcz23_2 : w22.cell? ⟨gb214, 2, none⟩ = some (.int .i64 x215002_1) := (blk_cell BK214.out 2).trans rfl; have hfz23_0 := blk_frozen BK214.out 0; have hfz23_1 := blk_frozen BK214.out 1; have hfz23_2 := blk_frozen BK214.out 2) | ((with_reducible refine gate_callee (f := 44) rfl ?_); refine goesL_ (some 33) rfl rfl Tryd.func44 (by kernel_rfl) rfl #[.agg #[.int .i64 x215000_1, .bool x215001_1, .int .i64 x215002_1]] rfl (by (try simp only [List.map_toArray, List.map_cons, List.map_nil]); first | done | rfl | (simp only [List.length_drop, List.length_take]; rfl)) ?_; (with_reducible refine (impl_Frame_pot.calls x215000_1 x215001_1 x215002_1 t217 t218 t219 _ A18.out).mono ?_); rintro e w24 ⟨rfl, hb⟩; refine ⟨_, rfl, ?_⟩; have n0_ := Aside0.mk (blk_below (g := gb214) (o := .cells #[.int .i64 x215000_1, .bool x215001_1, .int .i64 x215002_1] 26 (0, 0)) (by (with_reducible repeat (first | refine blk_drewN ?_ _ | refine blk_drew ?_ | refine blk_alloc ?_ _)); exact BK214.out) hb); have n1_ := Aside0.mk (below_step (by repeat (first | (with_reducible first | exact HB.out | apply below_alloc | apply pw_below_drewN | apply below_drew1 | refine below_set ?_ GE214.out) | exact HB.out)) hb); clear BK214; clear HB; have BK214 := n0_; have HB := n1_; clear n0_ n1_; (try clear hb); (try clear hb2); (try clear hk); (try clear hi); have hcz25_0 : w24.cell? ⟨gb214, 0, none⟩ = some (.int .i64 x215000_1) := (blk_cell BK214.out 0).trans rfl; have hcz25_1 : w24.cell? ⟨gb214, 1, none⟩ = some (.bool x215001_1) := (blk_cell BK214.out 1).trans rfl; have hcz25_2 : w24.cell? ⟨gb214, 2, none⟩ = some (.int .i64 x215002_1) := (blk_cell BK214.out 2).trans rfl; have hfz25_0 := blk_frozen BK214.out 0; have hfz25_1 := blk_frozen BK214.out 1; have hfz25_2 := blk_frozen BK214.out 2))
                      go_roundg k1
                      case measure => have := HK1.out; omega
                      case rel => exact ⟨(x6_1 ++ (t216.extract ((ji12) : Int).toNat t216.size)), (wrap64 (x7_1 + (((bt (t216.extract ((ji12) : Int).toNat t216.size) 0) - 48) % 256))), (t217), (t218), (t219), (by first | rfl | (simp; done) | (simp only [← hji12] <;> (first | rfl | simp)) | (simp [*]; done)), (by first | rfl | (simp; done) | (simp only [← hji12] <;> (first | rfl | simp)) | (simp [*]; done) | (simp only [bneNil, eqNil, Bool.not_not]; done) | (simp [bneNil, eqNil]; done)), H', ⟨by have := HK1.out; omega⟩, ⟨by (with_reducible repeat (first | refine blk_drewN ?_ _ | refine blk_drew ?_ | refine blk_alloc ?_ _)); refine blk_put (cs := #[.int .i64 t217, .bool t218, .int .i64 x215002_1]) ?_ 2 _ rfl; (with_reducible repeat (first | refine blk_drewN ?_ _ | refine blk_drew ?_ | refine blk_alloc ?_ _)); refine blk_put (cs := #[.int .i64 t217, .bool x215001_1, .int .i64 x215002_1]) ?_ 1 _ rfl; (with_reducible repeat (first | refine blk_drewN ?_ _ | refine blk_drew ?_ | refine blk_alloc ?_ _)); refine blk_put (cs := #[.int .i64 x215000_1, .bool x215001_1, .int .i64 x215002_1]) ?_ 0 _ rfl; (with_reducible repeat (first | refine blk_drewN ?_ _ | refine blk_drew ?_ | refine blk_alloc ?_ _)); exact BK214.out⟩, ⟨by repeat (first | (with_reducible first | exact HB.out | apply below_alloc | apply pw_below_drewN | apply below_drew1 | refine below_set ?_ GE214.out) | exact HB.out)⟩⟩
                    · rw [if_neg c16] at H
                      exact absurd H (by simp)
                  · rw [if_neg c15] at H
                    exact absurd H (by simp)
                · rw [if_neg c14] at H
                  exact absurd H (by simp)
              · rw [if_neg c13] at H
                exact absurd H (by simp)
            · replace c11 := Bool.eq_false_iff.mpr c11
              subst c11
              have H1 : (if x6_1.size + (t216.extract 0 1).size ≤ 9223372036854775807 then (if 0 < ((t216.extract 0 1).size : Int) then ((impl_Frame_pot.f x215000_1 x215001_1 x215002_1).bind fun bt220 => (impl_Frame_whole.l0 k1 false (x6_1 ++ (t216.extract 0 1)) (wrap64 (x7_1 + (((bt (t216.extract 0 1) 0) - 48) % 256))) bt220.1 bt220.2.1 bt220.2.2)) else (none)) else (none)) = some (r1, r2) := by rw [if_neg (show ¬ (false = true) by decide)] at H; exact H
              clear H
              have H := H1
              clear H1
              by_cases c26 : x6_1.size + (t216.extract 0 1).size ≤ 9223372036854775807
              · rw [if_pos c26] at H
                have c26b0 := eq_true c26
                have c26b1 : decide (x6_1.size + (t216.extract 0 1).size ≤ 9223372036854775807) = true := decide_eq_true c26
                try have c26b8 := of_decide_eq_true c26b1
                (try simp only [ByteArray.size_extract, Nat.min_self, Nat.sub_zero] at c26b8)
                try replace c26b8 := eq_true c26b8
                try have c26b2 : (9223372036854775807 < x6_1.size + (t216.extract 0 1).size) = False := eq_false (Nat.not_lt.2 c26)
                by_cases c27 : 0 < ((t216.extract 0 1).size : Int)
                · rw [if_pos c27] at H
                  have c27b0 : decide (0 < ((t216.extract 0 1).size : Int)) = true := decide_eq_true c27
                  have c27b1 : decide (0 < (t216.extract 0 1).size) = true := decide_eq_true (by omega)
                  try have c27b8 := of_decide_eq_true c27b1
                  (try simp only [ByteArray.size_extract, Nat.min_self, Nat.sub_zero] at c27b8)
                  try replace c27b8 := eq_true c27b8
                  clear c27
                  replace H := Option.bind_eq_some_iff.mp H
                  obtain ⟨⟨t220, t221, t222⟩, A290, H⟩ := H
                  replace H : (impl_Frame_whole.l0 k1 false (x6_1 ++ (t216.extract 0 1)) (wrap64 (x7_1 + (((bt (t216.extract 0 1) 0) - 48) % 256))) t220 t221 t222) = some (r1, r2) := H
                  have A29 := Aside0.mk A290
                  clear A290
                  have H' := Aside0.mk H
                  clear H
                  have hcz30_0 : wr.cell? ⟨gb214, 0, none⟩ = some (.int .i64 x215000_1) := (blk_cell BK214.out 0).trans rfl
                  have hcz30_1 : wr.cell? ⟨gb214, 1, none⟩ = some (.bool x215001_1) := (blk_cell BK214.out 1).trans rfl
                  have hcz30_2 : wr.cell? ⟨gb214, 2, none⟩ = some (.int .i64 x215002_1) := (blk_cell BK214.out 2).trans rfl
                  have hfz30_0 := blk_frozen BK214.out 0
                  have hfz30_1 := blk_frozen BK214.out 1
                  have hfz30_2 := blk_frozen BK214.out 2
                  go_wp2_with (first | ((with_reducible refine gate_callee (f := 43) rfl ?_); refine goesL_ (some 11) rfl rfl Tryd.func43 (by kernel_rfl) rfl #[.agg #[.int .i64 x215000_1, .bool x215001_1, .int .i64 x215002_1]] rfl (by (try simp only [List.map_toArray, List.map_cons, List.map_nil]); first | done | rfl | (simp only [List.length_drop, List.length_take]; rfl)) ?_; (with_reducible refine (impl_Frame_next.calls x215000_1 x215001_1 x215002_1 t215 _ A4.out).mono ?_); rintro e w31 ⟨rfl, hb⟩; refine ⟨_, rfl, ?_⟩; have n0_ := Aside0.mk (blk_below (g := gb214) (o := .cells #[.int .i64 x215000_1, .bool x215001_1, .int .i64 x215002_1] 26 (0, 0)) (by (with_reducible repeat (first | refine blk_drewN ?_ _ | refine blk_drew ?_ | refine blk_alloc ?_ _)); exact BK214.out) hb); have n1_ := Aside0.mk (below_step (by repeat (first | (with_reducible first | exact HB.out | apply below_alloc | apply pw_below_drewN | apply below_drew1 | refine below_set ?_ GE214.out) | exact HB.out)) hb); clear BK214; clear HB; have BK214 := n0_; have HB := n1_; clear n0_ n1_; (try clear hb); (try clear hb2); (try clear hk); (try clear hi); have hcz32_0 : w31.cell? ⟨gb214, 0, none⟩ = some (.int .i64 x215000_1) := (blk_cell BK214.out 0).trans rfl; have hcz32_1 : w31.cell? ⟨gb214, 1, none⟩ = some (.bool x215001_1) := (blk_cell BK214.out 1).trans rfl; have hcz32_2 : w31.cell? ⟨gb214, 2, none⟩ = some (.int .i64 x215002_1) := (blk_cell BK214.out 2).trans rfl; have hfz32_0 := blk_frozen BK214.out 0; have hfz32_1 := blk_frozen BK214.out 1; have hfz32_2 := blk_frozen BK214.out 2) | ((with_reducible refine gate_callee (f := 43) rfl ?_); refine goesL_ (some 14) rfl rfl Tryd.func43 (by kernel_rfl) rfl #[.agg #[.int .i64 x215000_1, .bool x215001_1, .int .i64 x215002_1]] rfl (by (try simp only [List.map_toArray, List.map_cons, List.map_nil]); first | done | rfl | (simp only [List.length_drop, List.length_take]; rfl)) ?_; (with_reducible refine (impl_Frame_next.calls x215000_1 x215001_1 x215002_1 t216 _ A8.out).mono ?_); rintro e w33 ⟨rfl, hb⟩; refine ⟨_, rfl, ?_⟩; have n0_ := Aside0.mk (blk_below (g := gb214) (o := .cells #[.int .i64 x215000_1, .bool x215001_1, .int .i64 x215002_1] 26 (0, 0)) (by (with_reducible repeat (first | refine blk_drewN ?_ _ | refine blk_drew ?_ | refine blk_alloc ?_ _)); exact BK214.out) hb); have n1_ := Aside0.mk (below_step (by repeat (first | (with_reducible first | exact HB.out | apply below_alloc | apply pw_below_drewN | apply below_drew1 | refine below_set ?_ GE214.out) | exact HB.out)) hb); clear BK214; clear HB; have BK214 := n0_; have HB := n1_; clear n0_ n1_; (try clear hb); (try clear hb2); (try clear hk); (try clear hi); have p28 : 0 ≤ (0 : Int) := (by omega); have q28 : 0 < (t216.extract 0 1).size := (by have : (0 : Int) < ((t216.extract 0 1).size : Int) := of_decide_eq_true (by first | (with_reducible assumption) | assumption); omega); have hx28 : ∀ h : 0 < (t216.extract 0 1).size, (((t216.extract 0 1)[0]'h).toNat : Int) = bt (t216.extract 0 1) 0 := bt_at (t216.extract 0 1) 0; clear p28; have qi28 : (0 < ((t216.extract 0 1).size : Int)) = True := eq_true (of_decide_eq_true (by first | (with_reducible assumption) | assumption)); replace q28 := eq_true q28; have hcz34_0 : w33.cell? ⟨gb214, 0, none⟩ = some (.int .i64 x215000_1) := (blk_cell BK214.out 0).trans rfl; have hcz34_1 : w33.cell? ⟨gb214, 1, none⟩ = some (.bool x215001_1) := (blk_cell BK214.out 1).trans rfl; have hcz34_2 : w33.cell? ⟨gb214, 2, none⟩ = some (.int .i64 x215002_1) := (blk_cell BK214.out 2).trans rfl; have hfz34_0 := blk_frozen BK214.out 0; have hfz34_1 := blk_frozen BK214.out 1; have hfz34_2 := blk_frozen BK214.out 2) | ((with_reducible refine gate_callee (f := 44) rfl ?_); refine goesL_ (some 33) rfl rfl Tryd.func44 (by kernel_rfl) rfl #[.agg #[.int .i64 x215000_1, .bool x215001_1, .int .i64 x215002_1]] rfl (by (try simp only [List.map_toArray, List.map_cons, List.map_nil]); first | done | rfl | (simp only [List.length_drop, List.length_take]; rfl)) ?_; (with_reducible refine (impl_Frame_pot.calls x215000_1 x215001_1 x215002_1 t220 t221 t222 _ A29.out).mono ?_); rintro e w35 ⟨rfl, hb⟩; refine ⟨_, rfl, ?_⟩; have n0_ := Aside0.mk (blk_below (g := gb214) (o := .cells #[.int .i64 x215000_1, .bool x215001_1, .int .i64 x215002_1] 26 (0, 0)) (by (with_reducible repeat (first | refine blk_drewN ?_ _ | refine blk_drew ?_ | refine blk_alloc ?_ _)); exact BK214.out) hb); have n1_ := Aside0.mk (below_step (by repeat (first | (with_reducible first | exact HB.out | apply below_alloc | apply pw_below_drewN | apply below_drew1 | refine below_set ?_ GE214.out) | exact HB.out)) hb); clear BK214; clear HB; have BK214 := n0_; have HB := n1_; clear n0_ n1_; (try clear hb); (try clear hb2); (try clear hk); (try clear hi); have hcz36_0 : w35.cell? ⟨gb214, 0, none⟩ = some (.int .i64 x215000_1) := (blk_cell BK214.out 0).trans rfl; have hcz36_1 : w35.cell? ⟨gb214, 1, none⟩ = some (.bool x215001_1) := (blk_cell BK214.out 1).trans rfl; have hcz36_2 : w35.cell? ⟨gb214, 2, none⟩ = some (.int .i64 x215002_1) := (blk_cell BK214.out 2).trans rfl; have hfz36_0 := blk_frozen BK214.out 0; have hfz36_1 := blk_frozen BK214.out 1; have hfz36_2 := blk_frozen BK214.out 2))
                  go_roundg k1
                  case measure => have := HK1.out; omega
                  case rel => exact ⟨(x6_1 ++ (t216.extract 0 1)), (wrap64 (x7_1 + (((bt (t216.extract 0 1) 0) - 48) % 256))), (t220), (t221), (t222), (by first | rfl | (simp; done) | (simp [*]; done)), (by first | rfl | (simp; done) | (simp [*]; done) | (simp only [bneNil, eqNil, Bool.not_not]; done) | (simp [bneNil, eqNil]; done)), H', ⟨by have := HK1.out; omega⟩, ⟨by (with_reducible repeat (first | refine blk_drewN ?_ _ | refine blk_drew ?_ | refine blk_alloc ?_ _)); refine blk_put (cs := #[.int .i64 t220, .bool t221, .int .i64 x215002_1]) ?_ 2 _ rfl; (with_reducible repeat (first | refine blk_drewN ?_ _ | refine blk_drew ?_ | refine blk_alloc ?_ _)); refine blk_put (cs := #[.int .i64 t220, .bool x215001_1, .int .i64 x215002_1]) ?_ 1 _ rfl; (with_reducible repeat (first | refine blk_drewN ?_ _ | refine blk_drew ?_ | refine blk_alloc ?_ _)); refine blk_put (cs := #[.int .i64 x215000_1, .bool x215001_1, .int .i64 x215002_1]) ?_ 0 _ rfl; (with_reducible repeat (first | refine blk_drewN ?_ _ | refine blk_drew ?_ | refine blk_alloc ?_ _)); exact BK214.out⟩, ⟨by repeat (first | (with_reducible first | exact HB.out | apply below_alloc | apply pw_below_drewN | apply below_drew1 | refine below_set ?_ GE214.out) | exact HB.out)⟩⟩
                · rw [if_neg c27] at H
                  exact absurd H (by simp)
              · rw [if_neg c26] at H
                exact absurd H (by simp)
          · rw [if_neg c10] at H
            exact absurd H (by simp)
        · rw [if_neg c9] at H
          exact absurd H (by simp)

end Go.Proofs.YtklfodjfpfedkaaDoor.PA
