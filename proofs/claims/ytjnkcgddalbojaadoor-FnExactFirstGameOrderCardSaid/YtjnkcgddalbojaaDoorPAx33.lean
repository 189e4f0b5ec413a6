/- Printed by this session's drive.py (the kit's print.py with hooks): functions of the seat as plain Lean functions, and the proofs that the calls do what these say. -/
import Derived.Test.YtjnkcgddalbojaaDoorPAx0
import Derived.Test.YtjnkcgddalbojaaDoorPAx11
import Derived.Test.YtjnkcgddalbojaaDoorPAx14
namespace Go.Proofs.YtjnkcgddalbojaaDoor.PA
open Go.RowKit Go.Proofs.YtjnkcgddalbojaaDoorW.PrintWords Go.Proofs.YtjnkcgddalbojaaDoorW.PrintLast Go.Proofs.YtjnkcgddalbojaaDoorW.PrintMore
open Go.Proofs.YtjnkcgddalbojaaDoorH
attribute [local go_sem] max2_int min2_int max_two min_two max_three min_three max_four min_four   -- for this text's walks alone
set_option linter.unusedVariables false
set_option linter.unusedSimpArgs false

/-! ### impl_IsGameOrder: function 24 -/
-- by hand
def impl_IsGameOrder.l0 : Nat → ByteArray → Nat → Int → Int → Option Bool
  | 0, _, _, _, _ => none
  | k + 1, s, pos, a, b => if pos < s.size then ((impl_setOver.f 2 a b).bind fun t => if t.toList = [45] then (if ((Utf8.decode s pos).1 : Int) = 97 then impl_IsGameOrder.l0 k s (pos + (Utf8.decode s pos).2) (wrap64 (a + 1)) b else impl_IsGameOrder.l0 k s (pos + (Utf8.decode s pos).2) a (wrap64 (b + 1))) else some false) else some true
def impl_IsGameOrder.f (a0 : ByteArray) : Option (Bool) := (impl_isPoints.f a0 13).bind fun t => if t = true then impl_IsGameOrder.l0 (a0.size + 1) a0 0 0 0 else some false
set_option maxHeartbeats 8000000 in
set_option maxRecDepth 100000 in
theorem impl_IsGameOrder.calls (a0 : ByteArray) (r : Bool) (w : World) (h : impl_IsGameOrder.f a0 = some r) :
    Calls Tryd.prog 24 #[.string a0] w fun e w' => e = .returned (.bool r) ∧ Below w.heap.size w w' := by
  obtain ⟨t, A0, H⟩ := Option.bind_eq_some_iff.mp h
  clear h
  have A0 := Aside0.mk A0
  cases t with
  | false =>
    rw [if_neg Bool.false_ne_true] at H
    cases H
    go_enter Tryd.func24, Tryd.ntmps24
    go_wp2_with (first | (go_at_call 56; (with_reducible refine (impl_isPoints.calls a0 13 false _ A0.out).mono ?_); rintro e w8 ⟨rfl, hb⟩; have HB := Aside0.mk hb; clear hb))
    go_ret
    exact ⟨rfl, HB.out⟩
  | true =>
    rw [if_pos rfl] at H
    have H := Aside0.mk H
    go_enter Tryd.func24, Tryd.ntmps24
    go_wp2_with (first | (go_at_call 56; (with_reducible refine (impl_isPoints.calls a0 13 true _ A0.out).mono ?_); rintro e w8 ⟨rfl, hb⟩; have HB := Aside0.mk hb; clear hb))
    have GE : Aside0 (w.heap.size ≤ w8.heap.size) := ⟨HB.out.size⟩
    go_loopg [3, 4] (a0.size + 1) (fun kq v3 v4 wr => ∃ (pos : Nat) (a b : Int), v3 = .int .i64 a ∧ v4 = .int .i64 b ∧ Aside0 (wr.heap[w8.heap.size]? = some (.stringIter a0 pos)) ∧ Aside0 (Below w.heap.size w wr) ∧ Aside0 (impl_IsGameOrder.l0 kq a0 pos a b = some r))
    case atStart => exact ⟨0, 0, 0, rfl, rfl, ⟨heap_at _ _ _ rfl⟩, ⟨below_alloc HB.out _⟩, H⟩
    case round =>
      obtain ⟨pos, a, b, rfl, rfl, hit, hbl, hf⟩ := hrel
      clear H
      cases gk with
      | zero => exact absurd hf.out (by simp [impl_IsGameOrder.l0])
      | succ kq =>
        have H := hf.out
        clear hf
        simp only [impl_IsGameOrder.l0] at H
        by_cases hp : pos < a0.size
        · obtain ⟨c, n, hd⟩ : ∃ c n, Utf8.decode a0 pos = (c, n) := ⟨_, _, rfl⟩
          have hi1 := Aside0.mk (Lib.iterAt_heap wr w8.heap.size a0 pos (pos + n) hit.out)
          have hb1 := Aside0.mk (Lib.below_iterAt hbl.out GE.out a0 (pos + n))
          obtain ⟨w1, hw1⟩ : ∃ w1, w1 = wr.iterAt w8.heap.size a0 (pos + n) := ⟨_, rfl⟩
          have hnx : ∀ ty, (Instr.next (.pointer (some ⟨w8.heap.size, 0, none⟩)) true ty).run Tryd.prog wr = .ok (.tuple #[.bool true, .int .i64 pos, .int .i32 c]) w1 := by
            intro ty
            rw [hw1, Lib.run_next_any_at wr _ a0 pos ty hit.out hp, hd]
          rw [← hw1] at hi1 hb1
          clear hw1 hit hbl
          rw [if_pos hp, hd] at H
          clear hp hd
          replace H := Option.bind_eq_some_iff.mp H
          obtain ⟨t, A10, H⟩ := H
          have A1 := Aside0.mk A10
          clear A10
          by_cases ht : t.toList = [45]
          · rw [if_pos ht] at H
            have c2b0 : (t.toList == ([45] : List UInt8)) = true := beq_iff_eq.2 ht
            have c2b1 : (t.toList != ([45] : List UInt8)) = false := bne_eq_false_iff_eq.2 ht
            clear ht
            by_cases h97 : (c : Int) = 97
            · rw [if_pos h97] at H
              have c1b0 : ((c : Int) == 97) = true := beq_iff_eq.2 h97
              clear h97
              have H' := Aside0.mk H
              clear H
              go_wp2_with (first | (go_at_call 53; (with_reducible refine (impl_setOver.calls 2 a b t _ A1.out).mono ?_); rintro e w9 ⟨rfl, ⟨nd, rfl⟩⟩))
              go_roundg kq
              case measure => omega
              case rel => exact ⟨pos + n, _, _, rfl, rfl, ⟨blk_drewN hi1.out _⟩, ⟨pw_below_drewN hb1.out _⟩, H'⟩
            · rw [if_neg h97] at H
              have c1b0 : ((c : Int) == 97) = false := beq_eq_false_iff_ne.2 h97
              clear h97
              have H' := Aside0.mk H
              clear H
              go_wp2_with (first | (go_at_call 53; (with_reducible refine (impl_setOver.calls 2 a b t _ A1.out).mono ?_); rintro e w9 ⟨rfl, ⟨nd, rfl⟩⟩))
              go_roundg kq
              case measure => omega
              case rel => exact ⟨pos + n, _, _, rfl, rfl, ⟨blk_drewN hi1.out _⟩, ⟨pw_below_drewN hb1.out _⟩, H'⟩
          · rw [if_neg ht] at H
            have c2b0 : (t.toList == ([45] : List UInt8)) = false := beq_eq_false_iff_ne.2 ht
            have c2b1 : (t.toList != ([45] : List UInt8)) = true := bne_iff_ne.2 ht
            clear ht
            cases H
            go_wp2_with (first | (go_at_call 53; (with_reducible refine (impl_setOver.calls 2 a b t _ A1.out).mono ?_); rintro e w9 ⟨rfl, ⟨nd, rfl⟩⟩))
            go_ret
            exact ⟨rfl, pw_below_drewN hb1.out _⟩
        · have hnx : ∀ ty, (Instr.next (.pointer (some ⟨w8.heap.size, 0, none⟩)) true ty).run Tryd.prog wr = .ok (.tuple #[.bool false]) wr := fun ty => Lib.run_next_end_at wr _ a0 pos ty hit.out hp
          rw [if_neg hp] at H
          clear hp
          cases H
          go_wp2
          go_ret
          exact ⟨rfl, hbl.out⟩

end Go.Proofs.YtjnkcgddalbojaaDoor.PA
