/- Printed by this session's drive.py (the kit's print.py with hooks): functions of the seat as plain Lean functions, and the proofs that the calls do what these say. -/
import Derived.Test.YtjnkcgddalbojaaDoorPAx0
import Derived.Test.YtjnkcgddalbojaaDoorPAx11
import Derived.Test.YtjnkcgddalbojaaDoorPAx18
import Derived.Test.YtjnkcgddalbojaaDoorPAx23
import Derived.Test.YtjnkcgddalbojaaDoorPAx27
namespace Go.Proofs.YtjnkcgddalbojaaDoor.PA
open Go.RowKit Go.Proofs.YtjnkcgddalbojaaDoorW.PrintWords Go.Proofs.YtjnkcgddalbojaaDoorW.PrintLast Go.Proofs.YtjnkcgddalbojaaDoorW.PrintMore
open Go.Proofs.YtjnkcgddalbojaaDoorH
attribute [local go_sem] max2_int min2_int max_two min_two max_three min_three max_four min_four   -- for this text's walks alone
set_option linter.unusedVariables false
set_option linter.unusedSimpArgs false

/-! ### impl_SetStands: function 20 -/
def impl_SetStands.j0 : Nat → Bool → Bool → ByteArray → Int → Int → ByteArray → Int → Int → Option (Int × Int × ByteArray × Bool)
  | 0, _, _, _, _, _, _, _, _ => none
  | k + 1, x7, x24, x240000, x240001, x240002, x240003, x240004, x240005 => if x24 = true then (some (x240001, x240002, (⟨#[]⟩ : ByteArray), x7)) else ((impl_GameStands.f k x240003).bind fun bt241 => (if x240001 = 6 then (if x240002 = 6 then ((impl_TieStands.f k x240003).bind fun bt243 => (some (x240001, x240002, bt243.1, true))) else (some (x240001, x240002, bt241.1, true))) else (some (x240001, x240002, bt241.1, true))))
def impl_SetStands.f (k : Nat) (a0 : ByteArray) : Option (Int × Int × ByteArray × Bool) := (impl_readSet.f a0).bind fun bt232 => (if bt232.2.2.2.2.2.2 = true then ((impl_setOver.f k bt232.2.1 bt232.2.2.1).bind fun t240 => (impl_SetStands.j0 k bt232.2.2.2.2.2.2 (t240.toList != ([45] : List UInt8)) bt232.1 bt232.2.1 bt232.2.2.1 bt232.2.2.2.1 bt232.2.2.2.2.1 bt232.2.2.2.2.2.1)) else (impl_SetStands.j0 k bt232.2.2.2.2.2.2 true bt232.1 bt232.2.1 bt232.2.2.1 bt232.2.2.2.1 bt232.2.2.2.2.1 bt232.2.2.2.2.2.1))
theorem impl_SetStands.mono_l : ∀ k, (∀ y0 y1 y2 y3 y4 y5 y6 y7, LeO (impl_SetStands.j0 k y0 y1 y2 y3 y4 y5 y6 y7) (impl_SetStands.j0 (k + 1) y0 y1 y2 y3 y4 y5 y6 y7))
  | 0 => fun _ _ _ _ _ _ _ _ r h => by simp [impl_SetStands.j0] at h
  | k + 1 => by
    have ih0 := impl_SetStands.mono_l k
    · intro y0 y1 y2 y3 y4 y5 y6 y7
      unfold impl_SetStands.j0
      repeat' first
      | (with_reducible exact ih0 _ _ _ _ _ _ _ _)
      | (with_reducible exact impl_GameStands.mono _ _)
      | (with_reducible exact impl_TieStands.mono _ _)
      | (with_reducible exact impl_setOver.mono _ _ _)
      | (with_reducible exact LeO.refl _)
      | (with_reducible exact LeO.none _)
      | (with_reducible refine LeO.ite ?_ ?_)
      | (with_reducible refine LeO.bind ?_ (fun _ => ?_))
      | exact ih0 _ _ _ _ _ _ _ _
      | exact impl_GameStands.mono _ _
      | exact impl_TieStands.mono _ _
      | exact impl_setOver.mono _ _ _
      | exact LeO.none _
      | refine LeO.ite ?_ ?_
      | refine LeO.bind ?_ (fun _ => ?_)
theorem impl_SetStands.mono : ∀ a0 k, LeO (impl_SetStands.f k a0) (impl_SetStands.f (k + 1) a0) := by
  intro a0 k
  have ih0 := impl_SetStands.mono_l k
  unfold impl_SetStands.f
  repeat' first
      | (with_reducible exact ih0 _ _ _ _ _ _ _ _)
      | (with_reducible exact impl_GameStands.mono _ _)
      | (with_reducible exact impl_TieStands.mono _ _)
      | (with_reducible exact impl_setOver.mono _ _ _)
      | (with_reducible exact LeO.refl _)
      | (with_reducible exact LeO.none _)
      | (with_reducible refine LeO.ite ?_ ?_)
      | (with_reducible refine LeO.bind ?_ (fun _ => ?_))
      | exact ih0 _ _ _ _ _ _ _ _
      | exact impl_GameStands.mono _ _
      | exact impl_TieStands.mono _ _
      | exact impl_setOver.mono _ _ _
      | exact LeO.none _
      | refine LeO.ite ?_ ?_
      | refine LeO.bind ?_ (fun _ => ?_)
set_option maxHeartbeats 8000000 in
set_option maxRecDepth 100000 in
theorem impl_SetStands.calls (k : Nat) (a0 : ByteArray) (r1 : Int) (r2 : Int) (r3 : ByteArray) (r4 : Bool) (w : World) (htab : Lib.TabIs Tryd.prog w "internal/strconv.uint64pow10" .u64 Lib.pow10Tab) (h : impl_SetStands.f k a0 = some (r1, r2, r3, r4)) :
    Calls Tryd.prog 20 #[.string a0] w fun e w' => e = .returned (.tuple #[.int .i64 r1, .int .i64 r2, .string r3, .bool r4]) ∧ Below w.heap.size w w' := by
  have hu47 := Tryd.underlying47
  have HTAB := Aside0.mk htab
  clear htab
  have HB := Aside0.mk (Below.refl w.heap.size w)
  have H : ((impl_readSet.f a0).bind fun bt232 => (if bt232.2.2.2.2.2.2 = true then ((impl_setOver.f k bt232.2.1 bt232.2.2.1).bind fun t240 => (impl_SetStands.j0 k bt232.2.2.2.2.2.2 (t240.toList != ([45] : List UInt8)) bt232.1 bt232.2.1 bt232.2.2.1 bt232.2.2.2.1 bt232.2.2.2.2.1 bt232.2.2.2.2.2.1)) else (impl_SetStands.j0 k bt232.2.2.2.2.2.2 true bt232.1 bt232.2.1 bt232.2.2.1 bt232.2.2.2.1 bt232.2.2.2.2.1 bt232.2.2.2.2.2.1))) = some (r1, r2, r3, r4) := h
  clear h
  replace H := Option.bind_eq_some_iff.mp H
  obtain ⟨⟨t232, t233, t234, t235, t236, t237, t238⟩, A20, H⟩ := H
  replace H : (if t238 = true then ((impl_setOver.f k t233 t234).bind fun t240 => (impl_SetStands.j0 k t238 (t240.toList != ([45] : List UInt8)) t232 t233 t234 t235 t236 t237)) else (impl_SetStands.j0 k t238 true t232 t233 t234 t235 t236 t237)) = some (r1, r2, r3, r4) := H
  have A2 := Aside0.mk A20
  clear A20
  have HC3 := Aside0.mk H
  clear H
  go_enter Tryd.func20, Tryd.ntmps20
  go_upto_region 2 with (first | (go_at_call 52; (with_reducible refine (impl_readSet.calls a0 t232 t233 t234 t235 t236 t237 t238 _ A2.out).mono ?_); rintro e w4 ⟨rfl, hb⟩; have n0_ := Aside0.mk (below_step (by repeat (first | (with_reducible first | exact HB.out | apply below_alloc | apply pw_below_drewN | apply below_drew1) | exact HB.out)) hb); clear HB; have HB := n0_; clear n0_; (try clear hb); (try clear hb2); (try clear hk); (try clear hi)) | ((with_reducible refine gate_dst (N := 6) rfl ?_); refine box_event ?hg (N := 6) ?hd (cs := #[.string (⟨#[]⟩ : ByteArray), .int .i64 0, .int .i64 0, .string (⟨#[]⟩ : ByteArray), .int .i64 0, .int .i64 0]) (t := 47) ?hr ?_; (case hd => rfl); (case hg => rfl); (case hr => first | (go_simp; done) | (go_simp; rfl)); intro gb239 hg w5 hbox hb; have n0_ := Aside0.mk (below_step (by repeat (first | (with_reducible first | exact HB.out | apply below_alloc | apply pw_below_drewN | apply below_drew1) | exact HB.out)) hb); have n1_ := Aside0.mk (hbox); have n2_ := Aside0.mk ((by rw [hg]; exact (below_size (by repeat (first | (with_reducible first | exact HB.out | apply below_alloc | apply pw_below_drewN | apply below_drew1) | exact HB.out))) : w.heap.size ≤ gb239)); have n3_ := Aside0.mk ((by rw [hg]; exact (below_size (by repeat (first | (with_reducible first | exact HB.out | apply below_alloc | apply pw_below_drewN | apply below_drew1) | exact HB.out))) : w.heap.size ≤ gb239)); clear HB; have HB := n0_; have BK239 := n1_; have GW239 := n2_; have GE239 := n3_; clear n0_ n1_ n2_ n3_; clear hb hbox hg; have hcz6_0 : w5.cell? ⟨gb239, 0, none⟩ = some (.string (⟨#[]⟩ : ByteArray)) := (blk_cell BK239.out 0).trans rfl; have hcz6_1 : w5.cell? ⟨gb239, 1, none⟩ = some (.int .i64 0) := (blk_cell BK239.out 1).trans rfl; have hcz6_2 : w5.cell? ⟨gb239, 2, none⟩ = some (.int .i64 0) := (blk_cell BK239.out 2).trans rfl; have hcz6_3 : w5.cell? ⟨gb239, 3, none⟩ = some (.string (⟨#[]⟩ : ByteArray)) := (blk_cell BK239.out 3).trans rfl; have hcz6_4 : w5.cell? ⟨gb239, 4, none⟩ = some (.int .i64 0) := (blk_cell BK239.out 4).trans rfl; have hcz6_5 : w5.cell? ⟨gb239, 5, none⟩ = some (.int .i64 0) := (blk_cell BK239.out 5).trans rfl; have hfz6_0 := blk_frozen BK239.out 0; have hfz6_1 := blk_frozen BK239.out 1; have hfz6_2 := blk_frozen BK239.out 2; have hfz6_3 := blk_frozen BK239.out 3; have hfz6_4 := blk_frozen BK239.out 4; have hfz6_5 := blk_frozen BK239.out 5))
  repeat (go_quiet (first | (go_at_call 52; (with_reducible refine (impl_readSet.calls a0 t232 t233 t234 t235 t236 t237 t238 _ A2.out).mono ?_); rintro e w4 ⟨rfl, hb⟩; have n0_ := Aside0.mk (below_step (by repeat (first | (with_reducible first | exact HB.out | apply below_alloc | apply pw_below_drewN | apply below_drew1) | exact HB.out)) hb); clear HB; have HB := n0_; clear n0_; (try clear hb); (try clear hb2); (try clear hk); (try clear hi)) | ((with_reducible refine gate_dst (N := 6) rfl ?_); refine box_event ?hg (N := 6) ?hd (cs := #[.string (⟨#[]⟩ : ByteArray), .int .i64 0, .int .i64 0, .string (⟨#[]⟩ : ByteArray), .int .i64 0, .int .i64 0]) (t := 47) ?hr ?_; (case hd => rfl); (case hg => rfl); (case hr => first | (go_simp; done) | (go_simp; rfl)); intro gb239 hg w5 hbox hb; have n0_ := Aside0.mk (below_step (by repeat (first | (with_reducible first | exact HB.out | apply below_alloc | apply pw_below_drewN | apply below_drew1) | exact HB.out)) hb); have n1_ := Aside0.mk (hbox); have n2_ := Aside0.mk ((by rw [hg]; exact (below_size (by repeat (first | (with_reducible first | exact HB.out | apply below_alloc | apply pw_below_drewN | apply below_drew1) | exact HB.out))) : w.heap.size ≤ gb239)); have n3_ := Aside0.mk ((by rw [hg]; exact (below_size (by repeat (first | (with_reducible first | exact HB.out | apply below_alloc | apply pw_below_drewN | apply below_drew1) | exact HB.out))) : w.heap.size ≤ gb239)); clear HB; have HB := n0_; have BK239 := n1_; have GW239 := n2_; have GE239 := n3_; clear n0_ n1_ n2_ n3_; clear hb hbox hg; have hcz6_0 : w5.cell? ⟨gb239, 0, none⟩ = some (.string (⟨#[]⟩ : ByteArray)) := (blk_cell BK239.out 0).trans rfl; have hcz6_1 : w5.cell? ⟨gb239, 1, none⟩ = some (.int .i64 0) := (blk_cell BK239.out 1).trans rfl; have hcz6_2 : w5.cell? ⟨gb239, 2, none⟩ = some (.int .i64 0) := (blk_cell BK239.out 2).trans rfl; have hcz6_3 : w5.cell? ⟨gb239, 3, none⟩ = some (.string (⟨#[]⟩ : ByteArray)) := (blk_cell BK239.out 3).trans rfl; have hcz6_4 : w5.cell? ⟨gb239, 4, none⟩ = some (.int .i64 0) := (blk_cell BK239.out 4).trans rfl; have hcz6_5 : w5.cell? ⟨gb239, 5, none⟩ = some (.int .i64 0) := (blk_cell BK239.out 5).trans rfl; have hfz6_0 := blk_frozen BK239.out 0; have hfz6_1 := blk_frozen BK239.out 1; have hfz6_2 := blk_frozen BK239.out 2; have hfz6_3 := blk_frozen BK239.out 3; have hfz6_4 := blk_frozen BK239.out 4; have hfz6_5 := blk_frozen BK239.out 5)); go_upto_region 2 with (first | (go_at_call 52; (with_reducible refine (impl_readSet.calls a0 t232 t233 t234 t235 t236 t237 t238 _ A2.out).mono ?_); rintro e w4 ⟨rfl, hb⟩; have n0_ := Aside0.mk (below_step (by repeat (first | (with_reducible first | exact HB.out | apply below_alloc | apply pw_below_drewN | apply below_drew1) | exact HB.out)) hb); clear HB; have HB := n0_; clear n0_; (try clear hb); (try clear hb2); (try clear hk); (try clear hi)) | ((with_reducible refine gate_dst (N := 6) rfl ?_); refine box_event ?hg (N := 6) ?hd (cs := #[.string (⟨#[]⟩ : ByteArray), .int .i64 0, .int .i64 0, .string (⟨#[]⟩ : ByteArray), .int .i64 0, .int .i64 0]) (t := 47) ?hr ?_; (case hd => rfl); (case hg => rfl); (case hr => first | (go_simp; done) | (go_simp; rfl)); intro gb239 hg w5 hbox hb; have n0_ := Aside0.mk (below_step (by repeat (first | (with_reducible first | exact HB.out | apply below_alloc | apply pw_below_drewN | apply below_drew1) | exact HB.out)) hb); have n1_ := Aside0.mk (hbox); have n2_ := Aside0.mk ((by rw [hg]; exact (below_size (by repeat (first | (with_reducible first | exact HB.out | apply below_alloc | apply pw_below_drewN | apply below_drew1) | exact HB.out))) : w.heap.size ≤ gb239)); have n3_ := Aside0.mk ((by rw [hg]; exact (below_size (by repeat (first | (with_reducible first | exact HB.out | apply below_alloc | apply pw_below_drewN | apply below_drew1) | exact HB.out))) : w.heap.size ≤ gb239)); clear HB; have HB := n0_; have BK239 := n1_; have GW239 := n2_; have GE239 := n3_; clear n0_ n1_ n2_ n3_; clear hb hbox hg; have hcz6_0 : w5.cell? ⟨gb239, 0, none⟩ = some (.string (⟨#[]⟩ : ByteArray)) := (blk_cell BK239.out 0).trans rfl; have hcz6_1 : w5.cell? ⟨gb239, 1, none⟩ = some (.int .i64 0) := (blk_cell BK239.out 1).trans rfl; have hcz6_2 : w5.cell? ⟨gb239, 2, none⟩ = some (.int .i64 0) := (blk_cell BK239.out 2).trans rfl; have hcz6_3 : w5.cell? ⟨gb239, 3, none⟩ = some (.string (⟨#[]⟩ : ByteArray)) := (blk_cell BK239.out 3).trans rfl; have hcz6_4 : w5.cell? ⟨gb239, 4, none⟩ = some (.int .i64 0) := (blk_cell BK239.out 4).trans rfl; have hcz6_5 : w5.cell? ⟨gb239, 5, none⟩ = some (.int .i64 0) := (blk_cell BK239.out 5).trans rfl; have hfz6_0 := blk_frozen BK239.out 0; have hfz6_1 := blk_frozen BK239.out 1; have hfz6_2 := blk_frozen BK239.out 2; have hfz6_3 := blk_frozen BK239.out 3; have hfz6_4 := blk_frozen BK239.out 4; have hfz6_5 := blk_frozen BK239.out 5)))
  (try simp only [Act.put, List.setIfInBounds_toArray, List.set_cons_zero, List.set_cons_succ])
  go_cut [24] (fun v24 wc => ∃ (kq : Nat) (x24_2 : Bool), v24 = .bool x24_2 ∧ Aside0 (impl_SetStands.j0 kq t238 x24_2 t232 t233 t234 t235 t236 t237 = some (r1, r2, r3, r4)) ∧ Aside0 (kq ≤ k) ∧ Aside0 (wc.heap[gb239]? = some (.cells #[.string t232, .int .i64 t233, .int .i64 t234, .string t235, .int .i64 t236, .int .i64 t237] 47 (0, 0))) ∧ Aside0 (Below w.heap.size w wc))
  case first =>
    have H := HC3.out
    clear HC3
    by_cases c7 : t238 = true
    · subst c7
      have H1 : ((impl_setOver.f k t233 t234).bind fun t240 => (impl_SetStands.j0 k true (t240.toList != ([45] : List UInt8)) t232 t233 t234 t235 t236 t237)) = some (r1, r2, r3, r4) := by rw [if_pos rfl] at H; exact H
      clear H
      have H := H1
      clear H1
      replace H := Option.bind_eq_some_iff.mp H
      obtain ⟨t240, A80, H⟩ := H
      replace H : (impl_SetStands.j0 k true (t240.toList != ([45] : List UInt8)) t232 t233 t234 t235 t236 t237) = some (r1, r2, r3, r4) := H
      have A8 := Aside0.mk A80
      clear A80
      have H' := Aside0.mk H
      clear H
      have hcz9_0 : w5.cell? ⟨gb239, 0, none⟩ = some (.string (⟨#[]⟩ : ByteArray)) := (blk_cell BK239.out 0).trans rfl
      have hcz9_1 : w5.cell? ⟨gb239, 1, none⟩ = some (.int .i64 0) := (blk_cell BK239.out 1).trans rfl
      have hcz9_2 : w5.cell? ⟨gb239, 2, none⟩ = some (.int .i64 0) := (blk_cell BK239.out 2).trans rfl
      have hcz9_3 : w5.cell? ⟨gb239, 3, none⟩ = some (.string (⟨#[]⟩ : ByteArray)) := (blk_cell BK239.out 3).trans rfl
      have hcz9_4 : w5.cell? ⟨gb239, 4, none⟩ = some (.int .i64 0) := (blk_cell BK239.out 4).trans rfl
      have hcz9_5 : w5.cell? ⟨gb239, 5, none⟩ = some (.int .i64 0) := (blk_cell BK239.out 5).trans rfl
      have hfz9_0 := blk_frozen BK239.out 0
      have hfz9_1 := blk_frozen BK239.out 1
      have hfz9_2 := blk_frozen BK239.out 2
      have hfz9_3 := blk_frozen BK239.out 3
      have hfz9_4 := blk_frozen BK239.out 4
      have hfz9_5 := blk_frozen BK239.out 5
      go_wp2_with (first | (go_at_call 53; (with_reducible refine (impl_setOver.calls k t233 t234 t240 _ A8.out).mono ?_); rintro e w' ⟨rfl, ⟨nd, rfl⟩⟩; (try first | exact ⟨rfl, _, World.drewN_drewN _ _ _⟩ | exact ⟨rfl, _, Eq.trans (World.drewN_drewN _ _ _) (congrArg (World.drewN _) (Nat.add_assoc _ _ _))⟩)))
      repeat (go_quiet (first | (go_at_call 53; (with_reducible refine (impl_setOver.calls k t233 t234 t240 _ A8.out).mono ?_); rintro e w' ⟨rfl, ⟨nd, rfl⟩⟩; (try first | exact ⟨rfl, _, World.drewN_drewN _ _ _⟩ | exact ⟨rfl, _, Eq.trans (World.drewN_drewN _ _ _) (congrArg (World.drewN _) (Nat.add_assoc _ _ _))⟩))); try go_wp2_with (first | (go_at_call 53; (with_reducible refine (impl_setOver.calls k t233 t234 t240 _ A8.out).mono ?_); rintro e w' ⟨rfl, ⟨nd, rfl⟩⟩; (try first | exact ⟨rfl, _, World.drewN_drewN _ _ _⟩ | exact ⟨rfl, _, Eq.trans (World.drewN_drewN _ _ _) (congrArg (World.drewN _) (Nat.add_assoc _ _ _))⟩))))
      go_meet
      case rel => exact ⟨_, ((t240.toList != ([45] : List UInt8))), (by first | rfl | (simp; done) | (simp [*]; done) | (simp only [bneNil, eqNil, Bool.not_not]; done) | (simp [bneNil, eqNil]; done)), H', ⟨by first | omega | exact Nat.le_refl _⟩, ⟨by (with_reducible repeat (first | refine blk_drewN ?_ _ | refine blk_drew ?_ | refine blk_alloc ?_ _)); refine blk_put (cs := #[.string t232, .int .i64 t233, .int .i64 t234, .string t235, .int .i64 t236, .int .i64 0]) ?_ 5 _ rfl; (with_reducible repeat (first | refine blk_drewN ?_ _ | refine blk_drew ?_ | refine blk_alloc ?_ _)); refine blk_put (cs := #[.string t232, .int .i64 t233, .int .i64 t234, .string t235, .int .i64 0, .int .i64 0]) ?_ 4 _ rfl; (with_reducible repeat (first | refine blk_drewN ?_ _ | refine blk_drew ?_ | refine blk_alloc ?_ _)); refine blk_put (cs := #[.string t232, .int .i64 t233, .int .i64 t234, .string (⟨#[]⟩ : ByteArray), .int .i64 0, .int .i64 0]) ?_ 3 _ rfl; (with_reducible repeat (first | refine blk_drewN ?_ _ | refine blk_drew ?_ | refine blk_alloc ?_ _)); refine blk_put (cs := #[.string t232, .int .i64 t233, .int .i64 0, .string (⟨#[]⟩ : ByteArray), .int .i64 0, .int .i64 0]) ?_ 2 _ rfl; (with_reducible repeat (first | refine blk_drewN ?_ _ | refine blk_drew ?_ | refine blk_alloc ?_ _)); refine blk_put (cs := #[.string t232, .int .i64 0, .int .i64 0, .string (⟨#[]⟩ : ByteArray), .int .i64 0, .int .i64 0]) ?_ 1 _ rfl; (with_reducible repeat (first | refine blk_drewN ?_ _ | refine blk_drew ?_ | refine blk_alloc ?_ _)); refine blk_put (cs := #[.string (⟨#[]⟩ : ByteArray), .int .i64 0, .int .i64 0, .string (⟨#[]⟩ : ByteArray), .int .i64 0, .int .i64 0]) ?_ 0 _ rfl; (with_reducible repeat (first | refine blk_drewN ?_ _ | refine blk_drew ?_ | refine blk_alloc ?_ _)); exact BK239.out⟩, ⟨by repeat (first | (with_reducible first | exact HB.out | apply below_alloc | apply pw_below_drewN | apply below_drew1 | refine below_set ?_ GE239.out) | exact HB.out)⟩⟩
    · replace c7 := Bool.eq_false_iff.mpr c7
      subst c7
      have H1 : (impl_SetStands.j0 k false true t232 t233 t234 t235 t236 t237) = some (r1, r2, r3, r4) := by rw [if_neg (show ¬ (false = true) by decide)] at H; exact H
      clear H
      have H := H1
      clear H1
      have H' := Aside0.mk H
      clear H
      go_wp2
      repeat (go_quiet (fail); try go_wp2)
      go_meet
      case rel => exact ⟨_, (true), (by first | rfl | (simp; done) | (simp [*]; done) | (simp only [bneNil, eqNil, Bool.not_not]; done) | (simp [bneNil, eqNil]; done)), H', ⟨by first | omega | exact Nat.le_refl _⟩, ⟨by (with_reducible repeat (first | refine blk_drewN ?_ _ | refine blk_drew ?_ | refine blk_alloc ?_ _)); refine blk_put (cs := #[.string t232, .int .i64 t233, .int .i64 t234, .string t235, .int .i64 t236, .int .i64 0]) ?_ 5 _ rfl; (with_reducible repeat (first | refine blk_drewN ?_ _ | refine blk_drew ?_ | refine blk_alloc ?_ _)); refine blk_put (cs := #[.string t232, .int .i64 t233, .int .i64 t234, .string t235, .int .i64 0, .int .i64 0]) ?_ 4 _ rfl; (with_reducible repeat (first | refine blk_drewN ?_ _ | refine blk_drew ?_ | refine blk_alloc ?_ _)); refine blk_put (cs := #[.string t232, .int .i64 t233, .int .i64 t234, .string (⟨#[]⟩ : ByteArray), .int .i64 0, .int .i64 0]) ?_ 3 _ rfl; (with_reducible repeat (first | refine blk_drewN ?_ _ | refine blk_drew ?_ | refine blk_alloc ?_ _)); refine blk_put (cs := #[.string t232, .int .i64 t233, .int .i64 0, .string (⟨#[]⟩ : ByteArray), .int .i64 0, .int .i64 0]) ?_ 2 _ rfl; (with_reducible repeat (first | refine blk_drewN ?_ _ | refine blk_drew ?_ | refine blk_alloc ?_ _)); refine blk_put (cs := #[.string t232, .int .i64 0, .int .i64 0, .string (⟨#[]⟩ : ByteArray), .int .i64 0, .int .i64 0]) ?_ 1 _ rfl; (with_reducible repeat (first | refine blk_drewN ?_ _ | refine blk_drew ?_ | refine blk_alloc ?_ _)); refine blk_put (cs := #[.string (⟨#[]⟩ : ByteArray), .int .i64 0, .int .i64 0, .string (⟨#[]⟩ : ByteArray), .int .i64 0, .int .i64 0]) ?_ 0 _ rfl; (with_reducible repeat (first | refine blk_drewN ?_ _ | refine blk_drew ?_ | refine blk_alloc ?_ _)); exact BK239.out⟩, ⟨by repeat (first | (with_reducible first | exact HB.out | apply below_alloc | apply pw_below_drewN | apply below_drew1 | refine below_set ?_ GE239.out) | exact HB.out)⟩⟩
  case rest =>
    clear HC3
    try clear c2
    try clear p2
    try clear c7
    try clear hcz6_0
    try clear hcz6_1
    try clear hcz6_2
    try clear hcz6_3
    try clear hcz6_4
    try clear hcz6_5
    try clear hcz9_0
    try clear hcz9_1
    try clear hcz9_2
    try clear hcz9_3
    try clear hcz9_4
    try clear hcz9_5
    try clear hfz6_0
    try clear hfz6_1
    try clear hfz6_2
    try clear hfz6_3
    try clear hfz6_4
    try clear hfz6_5
    try clear hfz9_0
    try clear hfz9_1
    try clear hfz9_2
    try clear hfz9_3
    try clear hfz9_4
    try clear hfz9_5
    obtain ⟨kq, x24_2, rfl, HA, HJ2, BK239, HB⟩ := hcut
    cases kq with
    | zero => exact absurd HA.out (by simp [impl_SetStands.j0])
    | succ kj2 =>
      have H := HA.out
      clear HA
      simp only [impl_SetStands.j0] at H
      by_cases c10 : x24_2 = true
      · subst c10
        have H1 : (some (t233, t234, (⟨#[]⟩ : ByteArray), t238)) = some (r1, r2, r3, r4) := by rw [if_pos rfl] at H; exact H
        clear H
        have H := H1
        clear H1
        simp only [Option.some.injEq, Prod.mk.injEq] at H
        obtain ⟨rfl, rfl, rfl, rfl⟩ := H
        have hcz11_0 : wc.cell? ⟨gb239, 0, none⟩ = some (.string t232) := (blk_cell BK239.out 0).trans rfl
        have hcz11_1 : wc.cell? ⟨gb239, 1, none⟩ = some (.int .i64 t233) := (blk_cell BK239.out 1).trans rfl
        have hcz11_2 : wc.cell? ⟨gb239, 2, none⟩ = some (.int .i64 t234) := (blk_cell BK239.out 2).trans rfl
        have hcz11_3 : wc.cell? ⟨gb239, 3, none⟩ = some (.string t235) := (blk_cell BK239.out 3).trans rfl
        have hcz11_4 : wc.cell? ⟨gb239, 4, none⟩ = some (.int .i64 t236) := (blk_cell BK239.out 4).trans rfl
        have hcz11_5 : wc.cell? ⟨gb239, 5, none⟩ = some (.int .i64 t237) := (blk_cell BK239.out 5).trans rfl
        have hfz11_0 := blk_frozen BK239.out 0
        have hfz11_1 := blk_frozen BK239.out 1
        have hfz11_2 := blk_frozen BK239.out 2
        have hfz11_3 := blk_frozen BK239.out 3
        have hfz11_4 := blk_frozen BK239.out 4
        have hfz11_5 := blk_frozen BK239.out 5
        go_wp2
        repeat (go_quiet (fail); try go_wp2)
        refine bodyPost_ret (results_list (rs := [.tmp 2, .tmp 3, .tmp 4, .tmp 5]) rfl (by simp) (.tmp (.tmp (.tmp (.tmp .nil))))) rfl ?_
        exact ⟨by first | rfl | (simp [errW_none, errW_some] <;> rfl) | (simp [*, errW_none, errW_some] <;> rfl), by repeat (first | (with_reducible first | exact HB.out | apply below_alloc | apply pw_below_drewN | apply below_drew1 | refine below_set ?_ GE239.out) | exact HB.out)⟩
      · replace c10 := Bool.eq_false_iff.mpr c10
        subst c10
        have H1 : ((impl_GameStands.f kj2 t235).bind fun bt241 => (if t233 = 6 then (if t234 = 6 then ((impl_TieStands.f kj2 t235).bind fun bt243 => (some (t233, t234, bt243.1, true))) else (some (t233, t234, bt241.1, true))) else (some (t233, t234, bt241.1, true)))) = some (r1, r2, r3, r4) := by rw [if_neg (show ¬ (false = true) by decide)] at H; exact H
        clear H
        have H := H1
        clear H1
        replace H := Option.bind_eq_some_iff.mp H
        obtain ⟨⟨t241, t242⟩, A120, H⟩ := H
        replace H : (if t233 = 6 then (if t234 = 6 then ((impl_TieStands.f kj2 t235).bind fun bt243 => (some (t233, t234, bt243.1, true))) else (some (t233, t234, t241, true))) else (some (t233, t234, t241, true))) = some (r1, r2, r3, r4) := H
        have A12 := Aside0.mk A120
        clear A120
        by_cases c13 : t233 = 6
        · rw [if_pos c13] at H
          have c13b0 : (t233 == 6) = true := beq_iff_eq.mpr c13
          have c13b1 : (t233 != 6) = false := bne_eq_false_iff_eq.mpr c13
          clear c13
          by_cases c14 : t234 = 6
          · rw [if_pos c14] at H
            have c14b0 : (t234 == 6) = true := beq_iff_eq.mpr c14
            have c14b1 : (t234 != 6) = false := bne_eq_false_iff_eq.mpr c14
            clear c14
            replace H := Option.bind_eq_some_iff.mp H
            obtain ⟨⟨t243, t244⟩, A150, H⟩ := H
            replace H : (some (t233, t234, t243, true)) = some (r1, r2, r3, r4) := H
            have A15 := Aside0.mk A150
            clear A150
            simp only [Option.some.injEq, Prod.mk.injEq] at H
            obtain ⟨rfl, rfl, rfl, rfl⟩ := H
            have hcz16_0 : wc.cell? ⟨gb239, 0, none⟩ = some (.string t232) := (blk_cell BK239.out 0).trans rfl
            have hcz16_1 : wc.cell? ⟨gb239, 1, none⟩ = some (.int .i64 t233) := (blk_cell BK239.out 1).trans rfl
            have hcz16_2 : wc.cell? ⟨gb239, 2, none⟩ = some (.int .i64 t234) := (blk_cell BK239.out 2).trans rfl
            have hcz16_3 : wc.cell? ⟨gb239, 3, none⟩ = some (.string t235) := (blk_cell BK239.out 3).trans rfl
            have hcz16_4 : wc.cell? ⟨gb239, 4, none⟩ = some (.int .i64 t236) := (blk_cell BK239.out 4).trans rfl
            have hcz16_5 : wc.cell? ⟨gb239, 5, none⟩ = some (.int .i64 t237) := (blk_cell BK239.out 5).trans rfl
            have hfz16_0 := blk_frozen BK239.out 0
            have hfz16_1 := blk_frozen BK239.out 1
            have hfz16_2 := blk_frozen BK239.out 2
            have hfz16_3 := blk_frozen BK239.out 3
            have hfz16_4 := blk_frozen BK239.out 4
            have hfz16_5 := blk_frozen BK239.out 5
            go_wp2_with (first | (go_at_call 26; (with_reducible refine (impl_GameStands.calls kj2 t235 t241 t242 _ A12.out).mono ?_); rintro e w17 ⟨rfl, hb⟩; have n0_ := Aside0.mk (blk_below (g := gb239) (o := .cells #[.string t232, .int .i64 t233, .int .i64 t234, .string t235, .int .i64 t236, .int .i64 t237] 47 (0, 0)) (by (with_reducible repeat (first | refine blk_drewN ?_ _ | refine blk_drew ?_ | refine blk_alloc ?_ _)); exact BK239.out) hb); have n1_ := Aside0.mk (below_step (by repeat (first | (with_reducible first | exact HB.out | apply below_alloc | apply pw_below_drewN | apply below_drew1 | refine below_set ?_ GE239.out) | exact HB.out)) hb); clear BK239; clear HB; have BK239 := n0_; have HB := n1_; clear n0_ n1_; (try clear hb); (try clear hb2); (try clear hk); (try clear hi); have hcz18_0 : w17.cell? ⟨gb239, 0, none⟩ = some (.string t232) := (blk_cell BK239.out 0).trans rfl; have hcz18_1 : w17.cell? ⟨gb239, 1, none⟩ = some (.int .i64 t233) := (blk_cell BK239.out 1).trans rfl; have hcz18_2 : w17.cell? ⟨gb239, 2, none⟩ = some (.int .i64 t234) := (blk_cell BK239.out 2).trans rfl; have hcz18_3 : w17.cell? ⟨gb239, 3, none⟩ = some (.string t235) := (blk_cell BK239.out 3).trans rfl; have hcz18_4 : w17.cell? ⟨gb239, 4, none⟩ = some (.int .i64 t236) := (blk_cell BK239.out 4).trans rfl; have hcz18_5 : w17.cell? ⟨gb239, 5, none⟩ = some (.int .i64 t237) := (blk_cell BK239.out 5).trans rfl; have hfz18_0 := blk_frozen BK239.out 0; have hfz18_1 := blk_frozen BK239.out 1; have hfz18_2 := blk_frozen BK239.out 2; have hfz18_3 := blk_frozen BK239.out 3; have hfz18_4 := blk_frozen BK239.out 4; have hfz18_5 := blk_frozen BK239.out 5) | (go_at_call 47; (with_reducible refine (impl_TieStands.calls kj2 t235 t243 t244 _ (tab_at HTAB.out _ (by repeat (first | (with_reducible first | exact HB.out | apply below_alloc | apply pw_below_drewN | apply below_drew1) | exact HB.out))) A15.out).mono ?_); rintro e w19 ⟨rfl, hb⟩; have n0_ := Aside0.mk (blk_below (g := gb239) (o := .cells #[.string t232, .int .i64 t233, .int .i64 t234, .string t235, .int .i64 t236, .int .i64 t237] 47 (0, 0)) (by (with_reducible repeat (first | refine blk_drewN ?_ _ | refine blk_drew ?_ | refine blk_alloc ?_ _)); exact BK239.out) hb); have n1_ := Aside0.mk (below_step (by repeat (first | (with_reducible first | exact HB.out | apply below_alloc | apply pw_below_drewN | apply below_drew1 | refine below_set ?_ GE239.out) | exact HB.out)) hb); clear BK239; clear HB; have BK239 := n0_; have HB := n1_; clear n0_ n1_; (try clear hb); (try clear hb2); (try clear hk); (try clear hi); have hcz20_0 : w19.cell? ⟨gb239, 0, none⟩ = some (.string t232) := (blk_cell BK239.out 0).trans rfl; have hcz20_1 : w19.cell? ⟨gb239, 1, none⟩ = some (.int .i64 t233) := (blk_cell BK239.out 1).trans rfl; have hcz20_2 : w19.cell? ⟨gb239, 2, none⟩ = some (.int .i64 t234) := (blk_cell BK239.out 2).trans rfl; have hcz20_3 : w19.cell? ⟨gb239, 3, none⟩ = some (.string t235) := (blk_cell BK239.out 3).trans rfl; have hcz20_4 : w19.cell? ⟨gb239, 4, none⟩ = some (.int .i64 t236) := (blk_cell BK239.out 4).trans rfl; have hcz20_5 : w19.cell? ⟨gb239, 5, none⟩ = some (.int .i64 t237) := (blk_cell BK239.out 5).trans rfl; have hfz20_0 := blk_frozen BK239.out 0; have hfz20_1 := blk_frozen BK239.out 1; have hfz20_2 := blk_frozen BK239.out 2; have hfz20_3 := blk_frozen BK239.out 3; have hfz20_4 := blk_frozen BK239.out 4; have hfz20_5 := blk_frozen BK239.out 5))
            repeat (go_quiet (first | (go_at_call 26; (with_reducible refine (impl_GameStands.calls kj2 t235 t241 t242 _ A12.out).mono ?_); rintro e w17 ⟨rfl, hb⟩; have n0_ := Aside0.mk (blk_below (g := gb239) (o := .cells #[.string t232, .int .i64 t233, .int .i64 t234, .string t235, .int .i64 t236, .int .i64 t237] 47 (0, 0)) (by (with_reducible repeat (first | refine blk_drewN ?_ _ | refine blk_drew ?_ | refine blk_alloc ?_ _)); exact BK239.out) hb); have n1_ := Aside0.mk (below_step (by repeat (first | (with_reducible first | exact HB.out | apply below_alloc | apply pw_below_drewN | apply below_drew1 | refine below_set ?_ GE239.out) | exact HB.out)) hb); clear BK239; clear HB; have BK239 := n0_; have HB := n1_; clear n0_ n1_; (try clear hb); (try clear hb2); (try clear hk); (try clear hi); have hcz18_0 : w17.cell? ⟨gb239, 0, none⟩ = some (.string t232) := (blk_cell BK239.out 0).trans rfl; have hcz18_1 : w17.cell? ⟨gb239, 1, none⟩ = some (.int .i64 t233) := (blk_cell BK239.out 1).trans rfl; have hcz18_2 : w17.cell? ⟨gb239, 2, none⟩ = some (.int .i64 t234) := (blk_cell BK239.out 2).trans rfl; have hcz18_3 : w17.cell? ⟨gb239, 3, none⟩ = some (.string t235) := (blk_cell BK239.out 3).trans rfl; have hcz18_4 : w17.cell? ⟨gb239, 4, none⟩ = some (.int .i64 t236) := (blk_cell BK239.out 4).trans rfl; have hcz18_5 : w17.cell? ⟨gb239, 5, none⟩ = some (.int .i64 t237) := (blk_cell BK239.out 5).trans rfl; have hfz18_0 := blk_frozen BK239.out 0; have hfz18_1 := blk_frozen BK239.out 1; have hfz18_2 := blk_frozen BK239.out 2; have hfz18_3 := blk_frozen BK239.out 3; have hfz18_4 := blk_frozen BK239.out 4; have hfz18_5 := blk_frozen BK239.out 5) | (go_at_call 47; (with_reducible refine (impl_TieStands.calls kj2 t235 t243 t244 _ (tab_at HTAB.out _ (by repeat (first | (with_reducible first | exact HB.out | apply below_alloc | apply pw_below_drewN | apply below_drew1) | exact HB.out))) A15.out).mono ?_); rintro e w19 ⟨rfl, hb⟩; have n0_ := Aside0.mk (blk_below (g := gb239) (o := .cells #[.string t232, .int .i64 t233, .int .i64 t234, .string t235, .int .i64 t236, .int .i64 t237] 47 (0, 0)) (by (with_reducible repeat (first | refine blk_drewN ?_ _ | refine blk_drew ?_ | refine blk_alloc ?_ _)); exact BK239.out) hb); have n1_ := Aside0.mk (below_step (by repeat (first | (with_reducible first | exact HB.out | apply below_alloc | apply pw_below_drewN | apply below_drew1 | refine below_set ?_ GE239.out) | exact HB.out)) hb); clear BK239; clear HB; have BK239 := n0_; have HB := n1_; clear n0_ n1_; (try clear hb); (try clear hb2); (try clear hk); (try clear hi); have hcz20_0 : w19.cell? ⟨gb239, 0, none⟩ = some (.string t232) := (blk_cell BK239.out 0).trans rfl; have hcz20_1 : w19.cell? ⟨gb239, 1, none⟩ = some (.int .i64 t233) := (blk_cell BK239.out 1).trans rfl; have hcz20_2 : w19.cell? ⟨gb239, 2, none⟩ = some (.int .i64 t234) := (blk_cell BK239.out 2).trans rfl; have hcz20_3 : w19.cell? ⟨gb239, 3, none⟩ = some (.string t235) := (blk_cell BK239.out 3).trans rfl; have hcz20_4 : w19.cell? ⟨gb239, 4, none⟩ = some (.int .i64 t236) := (blk_cell BK239.out 4).trans rfl; have hcz20_5 : w19.cell? ⟨gb239, 5, none⟩ = some (.int .i64 t237) := (blk_cell BK239.out 5).trans rfl; have hfz20_0 := blk_frozen BK239.out 0; have hfz20_1 := blk_frozen BK239.out 1; have hfz20_2 := blk_frozen BK239.out 2; have hfz20_3 := blk_frozen BK239.out 3; have hfz20_4 := blk_frozen BK239.out 4; have hfz20_5 := blk_frozen BK239.out 5)); try go_wp2_with (first | (go_at_call 26; (with_reducible refine (impl_GameStands.calls kj2 t235 t241 t242 _ A12.out).mono ?_); rintro e w17 ⟨rfl, hb⟩; have n0_ := Aside0.mk (blk_below (g := gb239) (o := .cells #[.string t232, .int .i64 t233, .int .i64 t234, .string t235, .int .i64 t236, .int .i64 t237] 47 (0, 0)) (by (with_reducible repeat (first | refine blk_drewN ?_ _ | refine blk_drew ?_ | refine blk_alloc ?_ _)); exact BK239.out) hb); have n1_ := Aside0.mk (below_step (by repeat (first | (with_reducible first | exact HB.out | apply below_alloc | apply pw_below_drewN | apply below_drew1 | refine below_set ?_ GE239.out) | exact HB.out)) hb); clear BK239; clear HB; have BK239 := n0_; have HB := n1_; clear n0_ n1_; (try clear hb); (try clear hb2); (try clear hk); (try clear hi); have hcz18_0 : w17.cell? ⟨gb239, 0, none⟩ = some (.string t232) := (blk_cell BK239.out 0).trans rfl; have hcz18_1 : w17.cell? ⟨gb239, 1, none⟩ = some (.int .i64 t233) := (blk_cell BK239.out 1).trans rfl; have hcz18_2 : w17.cell? ⟨gb239, 2, none⟩ = some (.int .i64 t234) := (blk_cell BK239.out 2).trans rfl; have hcz18_3 : w17.cell? ⟨gb239, 3, none⟩ = some (.string t235) := (blk_cell BK239.out 3).trans rfl; have hcz18_4 : w17.cell? ⟨gb239, 4, none⟩ = some (.int .i64 t236) := (blk_cell BK239.out 4).trans rfl; have hcz18_5 : w17.cell? ⟨gb239, 5, none⟩ = some (.int .i64 t237) := (blk_cell BK239.out 5).trans rfl; have hfz18_0 := blk_frozen BK239.out 0; have hfz18_1 := blk_frozen BK239.out 1; have hfz18_2 := blk_frozen BK239.out 2; have hfz18_3 := blk_frozen BK239.out 3; have hfz18_4 := blk_frozen BK239.out 4; have hfz18_5 := blk_frozen BK239.out 5) | (go_at_call 47; (with_reducible refine (impl_TieStands.calls kj2 t235 t243 t244 _ (tab_at HTAB.out _ (by repeat (first | (with_reducible first | exact HB.out | apply below_alloc | apply pw_below_drewN | apply below_drew1) | exact HB.out))) A15.out).mono ?_); rintro e w19 ⟨rfl, hb⟩; have n0_ := Aside0.mk (blk_below (g := gb239) (o := .cells #[.string t232, .int .i64 t233, .int .i64 t234, .string t235, .int .i64 t236, .int .i64 t237] 47 (0, 0)) (by (with_reducible repeat (first | refine blk_drewN ?_ _ | refine blk_drew ?_ | refine blk_alloc ?_ _)); exact BK239.out) hb); have n1_ := Aside0.mk (below_step (by repeat (first | (with_reducible first | exact HB.out | apply below_alloc | apply pw_below_drewN | apply below_drew1 | refine below_set ?_ GE239.out) | exact HB.out)) hb); clear BK239; clear HB; have BK239 := n0_; have HB := n1_; clear n0_ n1_; (try clear hb); (try clear hb2); (try clear hk); (try clear hi); have hcz20_0 : w19.cell? ⟨gb239, 0, none⟩ = some (.string t232) := (blk_cell BK239.out 0).trans rfl; have hcz20_1 : w19.cell? ⟨gb239, 1, none⟩ = some (.int .i64 t233) := (blk_cell BK239.out 1).trans rfl; have hcz20_2 : w19.cell? ⟨gb239, 2, none⟩ = some (.int .i64 t234) := (blk_cell BK239.out 2).trans rfl; have hcz20_3 : w19.cell? ⟨gb239, 3, none⟩ = some (.string t235) := (blk_cell BK239.out 3).trans rfl; have hcz20_4 : w19.cell? ⟨gb239, 4, none⟩ = some (.int .i64 t236) := (blk_cell BK239.out 4).trans rfl; have hcz20_5 : w19.cell? ⟨gb239, 5, none⟩ = some (.int .i64 t237) := (blk_cell BK239.out 5).trans rfl; have hfz20_0 := blk_frozen BK239.out 0; have hfz20_1 := blk_frozen BK239.out 1; have hfz20_2 := blk_frozen BK239.out 2; have hfz20_3 := blk_frozen BK239.out 3; have hfz20_4 := blk_frozen BK239.out 4; have hfz20_5 := blk_frozen BK239.out 5)))
            refine bodyPost_ret (results_list (rs := [.tmp 2, .tmp 3, .tmp 4, .tmp 5]) rfl (by simp) (.tmp (.tmp (.tmp (.tmp .nil))))) rfl ?_
            exact ⟨by first | rfl | (simp [errW_none, errW_some] <;> rfl) | (simp [*, errW_none, errW_some] <;> rfl), by repeat (first | (with_reducible first | exact HB.out | apply below_alloc | apply pw_below_drewN | apply below_drew1 | refine below_set ?_ GE239.out) | exact HB.out)⟩
          · rw [if_neg c14] at H
            have c14b0 : (t234 == 6) = false := beq_eq_false_iff_ne.mpr c14
            have c14b1 : (t234 != 6) = true := bne_iff_ne.mpr c14
            simp only [Option.some.injEq, Prod.mk.injEq] at H
            obtain ⟨rfl, rfl, rfl, rfl⟩ := H
            have hcz21_0 : wc.cell? ⟨gb239, 0, none⟩ = some (.string t232) := (blk_cell BK239.out 0).trans rfl
            have hcz21_1 : wc.cell? ⟨gb239, 1, none⟩ = some (.int .i64 t233) := (blk_cell BK239.out 1).trans rfl
            have hcz21_2 : wc.cell? ⟨gb239, 2, none⟩ = some (.int .i64 t234) := (blk_cell BK239.out 2).trans rfl
            have hcz21_3 : wc.cell? ⟨gb239, 3, none⟩ = some (.string t235) := (blk_cell BK239.out 3).trans rfl
            have hcz21_4 : wc.cell? ⟨gb239, 4, none⟩ = some (.int .i64 t236) := (blk_cell BK239.out 4).trans rfl
            have hcz21_5 : wc.cell? ⟨gb239, 5, none⟩ = some (.int .i64 t237) := (blk_cell BK239.out 5).trans rfl
            have hfz21_0 := blk_frozen BK239.out 0
            have hfz21_1 := blk_frozen BK239.out 1
            have hfz21_2 := blk_frozen BK239.out 2
            have hfz21_3 := blk_frozen BK239.out 3
            have hfz21_4 := blk_frozen BK239.out 4
            have hfz21_5 := blk_frozen BK239.out 5
            go_wp2_with (first | (go_at_call 26; (with_reducible refine (impl_GameStands.calls kj2 t235 t241 t242 _ A12.out).mono ?_); rintro e w22 ⟨rfl, hb⟩; have n0_ := Aside0.mk (blk_below (g := gb239) (o := .cells #[.string t232, .int .i64 t233, .int .i64 t234, .string t235, .int .i64 t236, .int .i64 t237] 47 (0, 0)) (by (with_reducible repeat (first | refine blk_drewN ?_ _ | refine blk_drew ?_ | refine blk_alloc ?_ _)); exact BK239.out) hb); have n1_ := Aside0.mk (below_step (by repeat (first | (with_reducible first | exact HB.out | apply below_alloc | apply pw_below_drewN | apply below_drew1 | refine below_set ?_ GE239.out) | exact HB.out)) hb); clear BK239; clear HB; have BK239 := n0_; have HB := n1_; clear n0_ n1_; (try clear hb); (try clear hb2); (try clear hk); (try clear hi); have hcz23_0 : w22.cell? ⟨gb239, 0, none⟩ = some (.string t232) := (blk_cell BK239.out 0).trans rfl; have hcz23_1 : w22.cell? ⟨gb239, 1, none⟩ = some (.int .i64 t233) := (blk_cell BK239.out 1).trans rfl; have hcz23_2 : w22.cell? ⟨gb239, 2, none⟩ = some (.int .i64 t234) := (blk_cell BK239.out 2).trans rfl; have hcz23_3 : w22.cell? ⟨gb239, 3, none⟩ = some (.string t235) := (blk_cell BK239.out 3).trans rfl; have hcz23_4 : w22.cell? ⟨gb239, 4, none⟩ = some (.int .i64 t236) := (blk_cell BK239.out 4).trans rfl; have hcz23_5 : w22.cell? ⟨gb239, 5, none⟩ = some (.int .i64 t237) := (blk_cell BK239.out 5).trans rfl; have hfz23_0 := blk_frozen BK239.out 0; have hfz23_1 := blk_frozen BK239.out 1; have hfz23_2 := blk_frozen BK239.out 2; have hfz23_3 := blk_frozen BK239.out 3; have hfz23_4 := blk_frozen BK239.out 4; have hfz23_5 := blk_frozen BK239.out 5))
            repeat (go_quiet (first | (go_at_call 26; (with_reducible refine (impl_GameStands.calls kj2 t235 t241 t242 _ A12.out).mono ?_); rintro e w22 ⟨rfl, hb⟩; have n0_ := Aside0.mk (blk_below (g := gb239) (o := .cells #[.string t232, .int .i64 t233, .int .i64 t234, .string t235, .int .i64 t236, .int .i64 t237] 47 (0, 0)) (by (with_reducible repeat (first | refine blk_drewN ?_ _ | refine blk_drew ?_ | refine blk_alloc ?_ _)); exact BK239.out) hb); have n1_ := Aside0.mk (below_step (by repeat (first | (with_reducible first | exact HB.out | apply below_alloc | apply pw_below_drewN | apply below_drew1 | refine below_set ?_ GE239.out) | exact HB.out)) hb); clear BK239; clear HB; have BK239 := n0_; have HB := n1_; clear n0_ n1_; (try clear hb); (try clear hb2); (try clear hk); (try clear hi); have hcz23_0 : w22.cell? ⟨gb239, 0, none⟩ = some (.string t232) := (blk_cell BK239.out 0).trans rfl; have hcz23_1 : w22.cell? ⟨gb239, 1, none⟩ = some (.int .i64 t233) := (blk_cell BK239.out 1).trans rfl; have hcz23_2 : w22.cell? ⟨gb239, 2, none⟩ = some (.int .i64 t234) := (blk_cell BK239.out 2).trans rfl; have hcz23_3 : w22.cell? ⟨gb239, 3, none⟩ = some (.string t235) := (blk_cell BK239.out 3).trans rfl; have hcz23_4 : w22.cell? ⟨gb239, 4, none⟩ = some (.int .i64 t236) := (blk_cell BK239.out 4).trans rfl; have hcz23_5 : w22.cell? ⟨gb239, 5, none⟩ = some (.int .i64 t237) := (blk_cell BK239.out 5).trans rfl; have hfz23_0 := blk_frozen BK239.out 0; have hfz23_1 := blk_frozen BK239.out 1; have hfz23_2 := blk_frozen BK239.out 2; have hfz23_3 := blk_frozen BK239.out 3; have hfz23_4 := blk_frozen BK239.out 4; have hfz23_5 := blk_frozen BK239.out 5)); try go_wp2_with (first | (go_at_call 26; (with_reducible refine (impl_GameStands.calls kj2 t235 t241 t242 _ A12.out).mono ?_); rintro e w22 ⟨rfl, hb⟩; have n0_ := Aside0.mk (blk_below (g := gb239) (o := .cells #[.string t232, .int .i64 t233, .int .i64 t234, .string t235, .int .i64 t236, .int .i64 t237] 47 (0, 0)) (by (with_reducible repeat (first | refine blk_drewN ?_ _ | refine blk_drew ?_ | refine blk_alloc ?_ _)); exact BK239.out) hb); have n1_ := Aside0.mk (below_step (by repeat (first | (with_reducible first | exact HB.out | apply below_alloc | apply pw_below_drewN | apply below_drew1 | refine below_set ?_ GE239.out) | exact HB.out)) hb); clear BK239; clear HB; have BK239 := n0_; have HB := n1_; clear n0_ n1_; (try clear hb); (try clear hb2); (try clear hk); (try clear hi); have hcz23_0 : w22.cell? ⟨gb239, 0, none⟩ = some (.string t232) := (blk_cell BK239.out 0).trans rfl; have hcz23_1 : w22.cell? ⟨gb239, 1, none⟩ = some (.int .i64 t233) := (blk_cell BK239.out 1).trans rfl; have hcz23_2 : w22.cell? ⟨gb239, 2, none⟩ = some (.int .i64 t234) := (blk_cell BK239.out 2).trans rfl; have hcz23_3 : w22.cell? ⟨gb239, 3, none⟩ = some (.string t235) := (blk_cell BK239.out 3).trans rfl; have hcz23_4 : w22.cell? ⟨gb239, 4, none⟩ = some (.int .i64 t236) := (blk_cell BK239.out 4).trans rfl; have hcz23_5 : w22.cell? ⟨gb239, 5, none⟩ = some (.int .i64 t237) := (blk_cell BK239.out 5).trans rfl; have hfz23_0 := blk_frozen BK239.out 0; have hfz23_1 := blk_frozen BK239.out 1; have hfz23_2 := blk_frozen BK239.out 2; have hfz23_3 := blk_frozen BK239.out 3; have hfz23_4 := blk_frozen BK239.out 4; have hfz23_5 := blk_frozen BK239.out 5)))
            refine bodyPost_ret (results_list (rs := [.tmp 2, .tmp 3, .tmp 4, .tmp 5]) rfl (by simp) (.tmp (.tmp (.tmp (.tmp .nil))))) rfl ?_
            exact ⟨by first | rfl | (simp [errW_none, errW_some] <;> rfl) | (simp [*, errW_none, errW_some] <;> rfl), by repeat (first | (with_reducible first | exact HB.out | apply below_alloc | apply pw_below_drewN | apply below_drew1 | refine below_set ?_ GE239.out) | exact HB.out)⟩
        · rw [if_neg c13] at H
          have c13b0 : (t233 == 6) = false := beq_eq_false_iff_ne.mpr c13
          have c13b1 : (t233 != 6) = true := bne_iff_ne.mpr c13
          simp only [Option.some.injEq, Prod.mk.injEq] at H
          obtain ⟨rfl, rfl, rfl, rfl⟩ := H
          have hcz24_0 : wc.cell? ⟨gb239, 0, none⟩ = some (.string t232) := (blk_cell BK239.out 0).trans rfl
          have hcz24_1 : wc.cell? ⟨gb239, 1, none⟩ = some (.int .i64 t233) := (blk_cell BK239.out 1).trans rfl
          have hcz24_2 : wc.cell? ⟨gb239, 2, none⟩ = some (.int .i64 t234) := (blk_cell BK239.out 2).trans rfl
          have hcz24_3 : wc.cell? ⟨gb239, 3, none⟩ = some (.string t235) := (blk_cell BK239.out 3).trans rfl
          have hcz24_4 : wc.cell? ⟨gb239, 4, none⟩ = some (.int .i64 t236) := (blk_cell BK239.out 4).trans rfl
          have hcz24_5 : wc.cell? ⟨gb239, 5, none⟩ = some (.int .i64 t237) := (blk_cell BK239.out 5).trans rfl
          have hfz24_0 := blk_frozen BK239.out 0
          have hfz24_1 := blk_frozen BK239.out 1
          have hfz24_2 := blk_frozen BK239.out 2
          have hfz24_3 := blk_frozen BK239.out 3
          have hfz24_4 := blk_frozen BK239.out 4
          have hfz24_5 := blk_frozen BK239.out 5
          go_wp2_with (first | (go_at_call 26; (with_reducible refine (impl_GameStands.calls kj2 t235 t241 t242 _ A12.out).mono ?_); rintro e w25 ⟨rfl, hb⟩; have n0_ := Aside0.mk (blk_below (g := gb239) (o := .cells #[.string t232, .int .i64 t233, .int .i64 t234, .string t235, .int .i64 t236, .int .i64 t237] 47 (0, 0)) (by (with_reducible repeat (first | refine blk_drewN ?_ _ | refine blk_drew ?_ | refine blk_alloc ?_ _)); exact BK239.out) hb); have n1_ := Aside0.mk (below_step (by repeat (first | (with_reducible first | exact HB.out | apply below_alloc | apply pw_below_drewN | apply below_drew1 | refine below_set ?_ GE239.out) | exact HB.out)) hb); clear BK239; clear HB; have BK239 := n0_; have HB := n1_; clear n0_ n1_; (try clear hb); (try clear hb2); (try clear hk); (try clear hi); have hcz26_0 : w25.cell? ⟨gb239, 0, none⟩ = some (.string t232) := (blk_cell BK239.out 0).trans rfl; have hcz26_1 : w25.cell? ⟨gb239, 1, none⟩ = some (.int .i64 t233) := (blk_cell BK239.out 1).trans rfl; have hcz26_2 : w25.cell? ⟨gb239, 2, none⟩ = some (.int .i64 t234) := (blk_cell BK239.out 2).trans rfl; have hcz26_3 : w25.cell? ⟨gb239, 3, none⟩ = some (.string t235) := (blk_cell BK239.out 3).trans rfl; have hcz26_4 : w25.cell? ⟨gb239, 4, none⟩ = some (.int .i64 t236) := (blk_cell BK239.out 4).trans rfl; have hcz26_5 : w25.cell? ⟨gb239, 5, none⟩ = some (.int .i64 t237) := (blk_cell BK239.out 5).trans rfl; have hfz26_0 := blk_frozen BK239.out 0; have hfz26_1 := blk_frozen BK239.out 1; have hfz26_2 := blk_frozen BK239.out 2; have hfz26_3 := blk_frozen BK239.out 3; have hfz26_4 := blk_frozen BK239.out 4; have hfz26_5 := blk_frozen BK239.out 5))
          repeat (go_quiet (first | (go_at_call 26; (with_reducible refine (impl_GameStands.calls kj2 t235 t241 t242 _ A12.out).mono ?_); rintro e w25 ⟨rfl, hb⟩; have n0_ := Aside0.mk (blk_below (g := gb239) (o := .cells #[.string t232, .int .i64 t233, .int .i64 t234, .string t235, .int .i64 t236, .int .i64 t237] 47 (0, 0)) (by (with_reducible repeat (first | refine blk_drewN ?_ _ | refine blk_drew ?_ | refine blk_alloc ?_ _)); exact BK239.out) hb); have n1_ := Aside0.mk (below_step (by repeat (first | (with_reducible first | exact HB.out | apply below_alloc | apply pw_below_drewN | apply below_drew1 | refine below_set ?_ GE239.out) | exact HB.out)) hb); clear BK239; clear HB; have BK239 := n0_; have HB := n1_; clear n0_ n1_; (try clear hb); (try clear hb2); (try clear hk); (try clear hi); have hcz26_0 : w25.cell? ⟨gb239, 0, none⟩ = some (.string t232) := (blk_cell BK239.out 0).trans rfl; have hcz26_1 : w25.cell? ⟨gb239, 1, none⟩ = some (.int .i64 t233) := (blk_cell BK239.out 1).trans rfl; have hcz26_2 : w25.cell? ⟨gb239, 2, none⟩ = some (.int .i64 t234) := (blk_cell BK239.out 2).trans rfl; have hcz26_3 : w25.cell? ⟨gb239, 3, none⟩ = some (.string t235) := (blk_cell BK239.out 3).trans rfl; have hcz26_4 : w25.cell? ⟨gb239, 4, none⟩ = some (.int .i64 t236) := (blk_cell BK239.out 4).trans rfl; have hcz26_5 : w25.cell? ⟨gb239, 5, none⟩ = some (.int .i64 t237) := (blk_cell BK239.out 5).trans rfl; have hfz26_0 := blk_frozen BK239.out 0; have hfz26_1 := blk_frozen BK239.out 1; have hfz26_2 := blk_frozen BK239.out 2; have hfz26_3 := blk_frozen BK239.out 3; have hfz26_4 := blk_frozen BK239.out 4; have hfz26_5 := blk_frozen BK239.out 5)); try go_wp2_with (first | (go_at_call 26; (with_reducible refine (impl_GameStands.calls kj2 t235 t241 t242 _ A12.out).mono ?_); rintro e w25 ⟨rfl, hb⟩; have n0_ := Aside0.mk (blk_below (g := gb239) (o := .cells #[.string t232, .int .i64 t233, .int .i64 t234, .string t235, .int .i64 t236, .int .i64 t237] 47 (0, 0)) (by (with_reducible repeat (first | refine blk_drewN ?_ _ | refine blk_drew ?_ | refine blk_alloc ?_ _)); exact BK239.out) hb); have n1_ := Aside0.mk (below_step (by repeat (first | (with_reducible first | exact HB.out | apply below_alloc | apply pw_below_drewN | apply below_drew1 | refine below_set ?_ GE239.out) | exact HB.out)) hb); clear BK239; clear HB; have BK239 := n0_; have HB := n1_; clear n0_ n1_; (try clear hb); (try clear hb2); (try clear hk); (try clear hi); have hcz26_0 : w25.cell? ⟨gb239, 0, none⟩ = some (.string t232) := (blk_cell BK239.out 0).trans rfl; have hcz26_1 : w25.cell? ⟨gb239, 1, none⟩ = some (.int .i64 t233) := (blk_cell BK239.out 1).trans rfl; have hcz26_2 : w25.cell? ⟨gb239, 2, none⟩ = some (.int .i64 t234) := (blk_cell BK239.out 2).trans rfl; have hcz26_3 : w25.cell? ⟨gb239, 3, none⟩ = some (.string t235) := (blk_cell BK239.out 3).trans rfl; have hcz26_4 : w25.cell? ⟨gb239, 4, none⟩ = some (.int .i64 t236) := (blk_cell BK239.out 4).trans rfl; have hcz26_5 : w25.cell? ⟨gb239, 5, none⟩ = some (.int .i64 t237) := (blk_cell BK239.out 5).trans rfl; have hfz26_0 := blk_frozen BK239.out 0; have hfz26_1 := blk_frozen BK239.out 1; have hfz26_2 := blk_frozen BK239.out 2; have hfz26_3 := blk_frozen BK239.out 3; have hfz26_4 := blk_frozen BK239.out 4; have hfz26_5 := blk_frozen BK239.out 5)))
          refine bodyPost_ret (results_list (rs := [.tmp 2, .tmp 3, .tmp 4, .tmp 5]) rfl (by simp) (.tmp (.tmp (.tmp (.tmp .nil))))) rfl ?_
          exact ⟨by first | rfl | (simp [errW_none, errW_some] <;> rfl) | (simp [*, errW_none, errW_some] <;> rfl), by repeat (first | (with_reducible first | exact HB.out | apply below_alloc | apply pw_below_drewN | apply below_drew1 | refine below_set ?_ GE239.out) | exact HB.out)⟩

end Go.Proofs.YtjnkcgddalbojaaDoor.PA
