/- Printed by this session's drive.py (the kit's print.py with hooks): functions of the seat as plain Lean functions, and the proofs that the calls do what these say. -/
import Derived.Test.YtjnkcgddalbojaaDoorPAx0
import Derived.Test.YtjnkcgddalbojaaDoorPAx11
import Derived.Test.YtjnkcgddalbojaaDoorPAx14
import Derived.Test.YtjnkcgddalbojaaDoorPAx16
import Derived.Test.YtjnkcgddalbojaaDoorPAx17
namespace Go.Proofs.YtjnkcgddalbojaaDoor.PA
open Go.RowKit Go.Proofs.YtjnkcgddalbojaaDoorW.PrintWords Go.Proofs.YtjnkcgddalbojaaDoorW.PrintLast Go.Proofs.YtjnkcgddalbojaaDoorW.PrintMore
open Go.Proofs.YtjnkcgddalbojaaDoorH
attribute [local go_sem] max2_int min2_int max_two min_two max_three min_three max_four min_four   -- for this text's walks alone
set_option linter.unusedVariables false
set_option linter.unusedSimpArgs false

/-! ### impl_readSet: function 52 -/
-- by hand
def impl_readSet.next (l : ByteArray → Int → Int → ByteArray → Int → Int → Option (ByteArray × Int × Int × ByteArray × Int × Int × Bool)) (g : ByteArray) (a b : Int) (o : ByteArray) (x y : Int) : Option Bool → Option (ByteArray × Int × Int × ByteArray × Int × Int × Bool)
  | none => l g a b o x y
  | some true => if a = 6 ∧ b = 6 then l (g ++ ⟨#[97]⟩) (wrap64 (a + 1)) b ⟨#[]⟩ x y else if (g.size : Int) % 2 = 0 then l (g ++ ⟨#[97]⟩) (wrap64 (a + 1)) b ⟨#[]⟩ x y else l (g ++ ⟨#[97]⟩) (wrap64 (a + 1)) b ⟨#[]⟩ (wrap64 (x + 1)) y
  | some false => if a = 6 ∧ b = 6 then l (g ++ ⟨#[98]⟩) a (wrap64 (b + 1)) ⟨#[]⟩ x y else if (g.size : Int) % 2 = 0 then l (g ++ ⟨#[98]⟩) a (wrap64 (b + 1)) ⟨#[]⟩ x (wrap64 (y + 1)) else l (g ++ ⟨#[98]⟩) a (wrap64 (b + 1)) ⟨#[]⟩ x y
def impl_readSet.l0 : Nat → ByteArray → Nat → ByteArray → Int → Int → ByteArray → Int → Int → Option (ByteArray × Int × Int × ByteArray × Int × Int × Bool)
  | 0, _, _, _, _, _, _, _, _ => none
  | k + 1, s, i, g, a, b, o, x, y => if i < s.size then ((impl_setOver.f 2 a b).bind fun t => if t.toList = [45] then (if o.size + 1 ≤ 9223372036854775807 ∧ g.size + 1 ≤ 9223372036854775807 then ((impl_follow.g (if a = 6 ∧ b = 6 then 7 else 4) 2 (o ++ s.extract i (i + 1))).bind fun r => impl_readSet.next (impl_readSet.l0 k s (i + 1)) g a b (o ++ s.extract i (i + 1)) x y r.2.2.1) else none) else some (⟨#[]⟩, 0, 0, ⟨#[]⟩, 0, 0, false)) else some (g, a, b, o, x, y, true)
def impl_readSet.f (a0 : ByteArray) : Option (ByteArray × Int × Int × ByteArray × Int × Int × Bool) := (impl_isPoints.f a0 300).bind fun t => if t = true then (if a0.size ≤ 9223372036854775806 then impl_readSet.l0 (a0.size + 1) a0 0 ⟨#[]⟩ 0 0 ⟨#[]⟩ 0 0 else none) else some (⟨#[]⟩, 0, 0, ⟨#[]⟩, 0, 0, false)
structure impl_readSet.St (w wr : World) (g1 g2 : Nat) (g : ByteArray) (a b : Int) (o : ByteArray) (x y : Int) : Prop where
  b1 : wr.heap[g1]? = some (.cells #[.string ⟨#[]⟩, .int .i64 0, .int .i64 0, .string ⟨#[]⟩, .int .i64 0, .int .i64 0] 47 (0, 0))
  b2 : wr.heap[g2]? = some (.cells #[.string g, .int .i64 a, .int .i64 b, .string o, .int .i64 x, .int .i64 y] 47 (0, 0))
  hb : Below w.heap.size w wr
  h1 : w.heap.size ≤ g1
  h2 : w.heap.size ≤ g2
  n12 : g1 ≠ g2
section
variable {w wr w' : World} {g1 g2 : Nat} {g : ByteArray} {a b : Int} {o : ByteArray} {x y : Int}
theorem impl_readSet.St.below (h : impl_readSet.St w wr g1 g2 g a b o x y) (k : Below wr.heap.size wr w') : impl_readSet.St w w' g1 g2 g a b o x y :=
  ⟨blk_below h.b1 k, blk_below h.b2 k, below_step h.hb k, h.h1, h.h2, h.n12⟩
theorem impl_readSet.St.drewN (h : impl_readSet.St w wr g1 g2 g a b o x y) (n : Nat) : impl_readSet.St w (wr.drewN n) g1 g2 g a b o x y :=
  ⟨blk_drewN h.b1 n, blk_drewN h.b2 n, pw_below_drewN h.hb n, h.h1, h.h2, h.n12⟩
theorem impl_readSet.St.drew (h : impl_readSet.St w wr g1 g2 g a b o x y) : impl_readSet.St w wr.drew g1 g2 g a b o x y :=
  ⟨blk_drew h.b1, blk_drew h.b2, below_drew1 h.hb, h.h1, h.h2, h.n12⟩
theorem impl_readSet.St.alloc (h : impl_readSet.St w wr g1 g2 g a b o x y) (ob : Obj) : impl_readSet.St w (wr.alloc ob) g1 g2 g a b o x y :=
  ⟨blk_alloc h.b1 ob, blk_alloc h.b2 ob, below_alloc h.hb ob, h.h1, h.h2, h.n12⟩
theorem impl_readSet.St.put (h : impl_readSet.St w wr g1 g2 g a b o x y) (i : Nat) (u : Value) {g' : ByteArray} {a' b' : Int} {o' : ByteArray} {x' y' : Int} (e : (#[.string g, .int .i64 a, .int .i64 b, .string o, .int .i64 x, .int .i64 y] : Array Value).setIfInBounds i u = #[.string g', .int .i64 a', .int .i64 b', .string o', .int .i64 x', .int .i64 y']) : impl_readSet.St w (wr.setCell ⟨g2, i, none⟩ u) g1 g2 g' a' b' o' x' y' :=
  ⟨blk_far h.b1 h.n12 u, blk_put h.b2 i u e, below_set h.hb h.h2, h.h1, h.h2, h.n12⟩
theorem impl_readSet.St.far (h : impl_readSet.St w wr g1 g2 g a b o x y) {g6 : Nat} (n1 : g1 ≠ g6) (n2 : g2 ≠ g6) (h6 : w.heap.size ≤ g6) (i : Nat) (u : Value) : impl_readSet.St w (wr.setCell ⟨g6, i, none⟩ u) g1 g2 g a b o x y :=
  ⟨blk_far h.b1 n1 u, blk_far h.b2 n2 u, below_set h.hb h6, h.h1, h.h2, h.n12⟩
theorem impl_readSet.St.set0 (h : impl_readSet.St w wr g1 g2 g a b o x y) (z : ByteArray) : impl_readSet.St w (wr.setCell ⟨g2, 0, none⟩ (.string z)) g1 g2 z a b o x y := h.put 0 _ rfl
theorem impl_readSet.St.set1 (h : impl_readSet.St w wr g1 g2 g a b o x y) (z : Int) : impl_readSet.St w (wr.setCell ⟨g2, 1, none⟩ (.int .i64 z)) g1 g2 g z b o x y := h.put 1 _ rfl
theorem impl_readSet.St.set2 (h : impl_readSet.St w wr g1 g2 g a b o x y) (z : Int) : impl_readSet.St w (wr.setCell ⟨g2, 2, none⟩ (.int .i64 z)) g1 g2 g a z o x y := h.put 2 _ rfl
theorem impl_readSet.St.set3 (h : impl_readSet.St w wr g1 g2 g a b o x y) (z : ByteArray) : impl_readSet.St w (wr.setCell ⟨g2, 3, none⟩ (.string z)) g1 g2 g a b z x y := h.put 3 _ rfl
theorem impl_readSet.St.set4 (h : impl_readSet.St w wr g1 g2 g a b o x y) (z : Int) : impl_readSet.St w (wr.setCell ⟨g2, 4, none⟩ (.int .i64 z)) g1 g2 g a b o z y := h.put 4 _ rfl
theorem impl_readSet.St.set5 (h : impl_readSet.St w wr g1 g2 g a b o x y) (z : Int) : impl_readSet.St w (wr.setCell ⟨g2, 5, none⟩ (.int .i64 z)) g1 g2 g a b o x z := h.put 5 _ rfl
end
def impl_readSet.T10 : Bool × List (List Nat × List Nat) := (true, [([], []), ([], []), ([1], [1]), ([2], [2]), ([3, 0], [3]), ([4], [4]), ([5, 4], [4, 5]), ([6, 4], [4, 6]), ([4, 7], [4, 7]), ([], []), ([9, 0, 4, 0, 9], [0, 9]), ([8, 10, 0, 1, 2, 3, 4, 5, 6, 7, 8, 9, 10], [8])])
def impl_readSet.B10 : List Nat := [0, 0, 2, 6, 15, 31, 63, 127, 255, 0, 543, 2047]
theorem impl_readSet.tab10 : rtab .any (opsOf Tryd.f52 10) = impl_readSet.T10 := by kernel_rfl
theorem impl_readSet.bits10 : waitsOk impl_readSet.T10.2 impl_readSet.B10 = true := by kernel_rfl
theorem impl_readSet.St.res {w wr : World} {g1 g2 : Nat} {g : ByteArray} {a b : Int} {o : ByteArray} {x y : Int} (h : impl_readSet.St w wr g1 g2 g a b o x y) (G : ByteArray) (A B : Int) (O : ByteArray) (X Y : Int) :
    ((((((wr.setCell ⟨g1, 0, none⟩ (.string G)).setCell ⟨g1, 1, none⟩ (.int .i64 A)).setCell ⟨g1, 2, none⟩ (.int .i64 B)).setCell ⟨g1, 3, none⟩ (.string O)).setCell ⟨g1, 4, none⟩ (.int .i64 X)).setCell ⟨g1, 5, none⟩ (.int .i64 Y)).heap[g1]? = some (.cells #[.string G, .int .i64 A, .int .i64 B, .string O, .int .i64 X, .int .i64 Y] 47 (0, 0)) := by
  refine blk_put (cs := #[.string G, .int .i64 A, .int .i64 B, .string O, .int .i64 X, .int .i64 0]) ?_ 5 _ rfl
  refine blk_put (cs := #[.string G, .int .i64 A, .int .i64 B, .string O, .int .i64 0, .int .i64 0]) ?_ 4 _ rfl
  refine blk_put (cs := #[.string G, .int .i64 A, .int .i64 B, .string ⟨#[]⟩, .int .i64 0, .int .i64 0]) ?_ 3 _ rfl
  refine blk_put (cs := #[.string G, .int .i64 A, .int .i64 0, .string ⟨#[]⟩, .int .i64 0, .int .i64 0]) ?_ 2 _ rfl
  refine blk_put (cs := #[.string G, .int .i64 0, .int .i64 0, .string ⟨#[]⟩, .int .i64 0, .int .i64 0]) ?_ 1 _ rfl
  exact blk_put h.b1 0 _ rfl
set_option maxHeartbeats 8000000 in
set_option maxRecDepth 100000 in
theorem impl_readSet.calls (a0 : ByteArray) (r1 : ByteArray) (r2 : Int) (r3 : Int) (r4 : ByteArray) (r5 : Int) (r6 : Int) (r7 : Bool) (w : World) (h : impl_readSet.f a0 = some (r1, r2, r3, r4, r5, r6, r7)) :
    Calls Tryd.prog 52 #[.string a0] w fun e w' => e = .returned (.tuple #[.agg #[.string r1, .int .i64 r2, .int .i64 r3, .string r4, .int .i64 r5, .int .i64 r6], .bool r7]) ∧ Below w.heap.size w w' := by
  have T1 : Aside0 (impl_tennis.f = some (4, 2)) := ⟨rfl⟩
  have T2 : Aside0 (impl_tie.f = some (7, 2)) := ⟨rfl⟩
  have huS := Tryd.underlying47
  have huR := Tryd.underlying53
  have huP := Tryd.underlying57
  have hFP : ∀ (y0 y1 : Int) (y2 : ByteArray) (y3 : Bool) (wq : World), (Instr.field 57 (.agg #[.int .i64 y0, .int .i64 y1, .string y2, .bool y3]) 2).run Tryd.prog wq = .ok (.string y2) wq := fun _ _ _ _ _ => by kernel_rfl
  have huA := Tryd.underlying45
  have hL97 : ∀ h, ((⟨#[97]⟩ : ByteArray)[0]'h).toNat = 97 := fun _ => rfl
  have hL98 : ∀ h, ((⟨#[98]⟩ : ByteArray)[0]'h).toNat = 98 := fun _ => rfl
  have hS97 : ∀ h, ((⟨#[97, 98]⟩ : ByteArray)[0]'h).toNat = 97 := fun _ => rfl
  have hS98 : ∀ h, ((⟨#[97, 98]⟩ : ByteArray)[1]'h).toNat = 98 := fun _ => rfl
  obtain ⟨t, A0, H⟩ := Option.bind_eq_some_iff.mp h
  clear h
  have A0 := Aside0.mk A0
  cases t with
  | false =>
    rw [if_neg Bool.false_ne_true] at H
    cases H
    go_enter Tryd.func52, Tryd.ntmps52
    go_wp2_with (first | (go_at_call 56; (with_reducible refine (impl_isPoints.calls a0 300 false _ A0.out).mono ?_); rintro e w8 ⟨rfl, hb⟩; have hs0 : Aside0 (impl_readSet.St w w8 w.heap.size (w.heap.size + 1) ⟨#[]⟩ 0 0 ⟨#[]⟩ 0 0) := ⟨⟨blk_below (blk_alloc (heap_at _ _ _ rfl) _) hb, blk_below (heap_at _ _ _ (by simp)) hb, below_step (below_alloc (below_alloc (Below.refl _ _) _) _) hb, by omega, by omega, by omega⟩⟩; clear hb; have hr1_0 : w8.cell? ⟨w.heap.size, 0, none⟩ = some (.string ⟨#[]⟩) := (blk_cell hs0.out.b1 0).trans rfl; have hk1_0 := blk_frozen hs0.out.b1 0; have hr1_1 : w8.cell? ⟨w.heap.size, 1, none⟩ = some (.int .i64 0) := (blk_cell hs0.out.b1 1).trans rfl; have hk1_1 := blk_frozen hs0.out.b1 1; have hr1_2 : w8.cell? ⟨w.heap.size, 2, none⟩ = some (.int .i64 0) := (blk_cell hs0.out.b1 2).trans rfl; have hk1_2 := blk_frozen hs0.out.b1 2; have hr1_3 : w8.cell? ⟨w.heap.size, 3, none⟩ = some (.string ⟨#[]⟩) := (blk_cell hs0.out.b1 3).trans rfl; have hk1_3 := blk_frozen hs0.out.b1 3; have hr1_4 : w8.cell? ⟨w.heap.size, 4, none⟩ = some (.int .i64 0) := (blk_cell hs0.out.b1 4).trans rfl; have hk1_4 := blk_frozen hs0.out.b1 4; have hr1_5 : w8.cell? ⟨w.heap.size, 5, none⟩ = some (.int .i64 0) := (blk_cell hs0.out.b1 5).trans rfl; have hk1_5 := blk_frozen hs0.out.b1 5; have hr2_0 : w8.cell? ⟨w.heap.size + 1, 0, none⟩ = some (.string ⟨#[]⟩) := (blk_cell hs0.out.b2 0).trans rfl; have hk2_0 := blk_frozen hs0.out.b2 0; have hr2_1 : w8.cell? ⟨w.heap.size + 1, 1, none⟩ = some (.int .i64 0) := (blk_cell hs0.out.b2 1).trans rfl; have hk2_1 := blk_frozen hs0.out.b2 1; have hr2_2 : w8.cell? ⟨w.heap.size + 1, 2, none⟩ = some (.int .i64 0) := (blk_cell hs0.out.b2 2).trans rfl; have hk2_2 := blk_frozen hs0.out.b2 2; have hr2_3 : w8.cell? ⟨w.heap.size + 1, 3, none⟩ = some (.string ⟨#[]⟩) := (blk_cell hs0.out.b2 3).trans rfl; have hk2_3 := blk_frozen hs0.out.b2 3; have hr2_4 : w8.cell? ⟨w.heap.size + 1, 4, none⟩ = some (.int .i64 0) := (blk_cell hs0.out.b2 4).trans rfl; have hk2_4 := blk_frozen hs0.out.b2 4; have hr2_5 : w8.cell? ⟨w.heap.size + 1, 5, none⟩ = some (.int .i64 0) := (blk_cell hs0.out.b2 5).trans rfl; have hk2_5 := blk_frozen hs0.out.b2 5))
    refine bodyPost_ret (results_ct rfl _ _ w.heap.size 47 #[.string ⟨#[]⟩, .int .i64 0, .int .i64 0, .string ⟨#[]⟩, .int .i64 0, .int .i64 0] (0, 0) _ rfl (hs0.out.res _ _ _ _ _ _) Tryd.underlying47 rfl (by kernel_rfl)) rfl ?_
    exact ⟨rfl, by repeat (first | exact hs0.out.hb | refine below_set ?_ hs0.out.h1)⟩
  | true =>
    rw [if_pos rfl] at H
    by_cases hsz : a0.size ≤ 9223372036854775806
    · rw [if_pos hsz] at H
      have H := Aside0.mk H
      go_enter Tryd.func52, Tryd.ntmps52
      go_wp2_with (first | (go_at_call 56; (with_reducible refine (impl_isPoints.calls a0 300 true _ A0.out).mono ?_); rintro e w8 ⟨rfl, hb⟩; have HB := Aside0.mk hb; clear hb))
      go_loopg [17] (a0.size + 1) (fun kq v17 wr => ∃ (i : Nat) (g : ByteArray) (a b : Int) (o : ByteArray) (x y : Int), v17 = .int .i64 i ∧ i ≤ a0.size ∧ Aside0 (impl_readSet.St w wr w.heap.size (w.heap.size + 1) g a b o x y) ∧ Aside0 (impl_readSet.l0 kq a0 i g a b o x y = some (r1, r2, r3, r4, r5, r6, r7)))
      case atStart => exact ⟨0, ⟨#[]⟩, 0, 0, ⟨#[]⟩, 0, 0, rfl, Nat.zero_le _, ⟨⟨blk_below (blk_alloc (heap_at _ _ _ rfl) _) HB.out, blk_below (heap_at _ _ _ (by simp)) HB.out, below_step (below_alloc (below_alloc (Below.refl _ _) _) _) HB.out, by omega, by omega, by omega⟩⟩, H⟩
      case round =>
        obtain ⟨i, g, a, b, o, x, y, rfl, hi, hst, hf⟩ := hrel
        clear H
        cases gk with
        | zero => exact absurd hf.out (by simp [impl_readSet.l0])
        | succ kq =>
          have H := hf.out
          clear hf
          simp only [impl_readSet.l0] at H
          have hc1_0 : wr.cell? ⟨w.heap.size + 1, 0, none⟩ = some (.string g) := (blk_cell hst.out.b2 0).trans rfl; have hz1_0 := blk_frozen hst.out.b2 0
          have hc1_1 : wr.cell? ⟨w.heap.size + 1, 1, none⟩ = some (.int .i64 a) := (blk_cell hst.out.b2 1).trans rfl; have hz1_1 := blk_frozen hst.out.b2 1
          have hc1_2 : wr.cell? ⟨w.heap.size + 1, 2, none⟩ = some (.int .i64 b) := (blk_cell hst.out.b2 2).trans rfl; have hz1_2 := blk_frozen hst.out.b2 2
          have hc1_3 : wr.cell? ⟨w.heap.size + 1, 3, none⟩ = some (.string o) := (blk_cell hst.out.b2 3).trans rfl; have hz1_3 := blk_frozen hst.out.b2 3
          have hc1_4 : wr.cell? ⟨w.heap.size + 1, 4, none⟩ = some (.int .i64 x) := (blk_cell hst.out.b2 4).trans rfl; have hz1_4 := blk_frozen hst.out.b2 4
          have hc1_5 : wr.cell? ⟨w.heap.size + 1, 5, none⟩ = some (.int .i64 y) := (blk_cell hst.out.b2 5).trans rfl; have hz1_5 := blk_frozen hst.out.b2 5
          by_cases hlt : i < a0.size
          · rw [if_pos hlt] at H
            replace H := Option.bind_eq_some_iff.mp H
            obtain ⟨t, A10, H⟩ := H
            have A1 := Aside0.mk A10
            clear A10
            by_cases ht : t.toList = [45]
            · rw [if_pos ht] at H
              have c2b0 : (t.toList == ([45] : List UInt8)) = true := beq_iff_eq.2 ht
              have c2b1 : (t.toList != ([45] : List UInt8)) = false := bne_eq_false_iff_eq.2 ht
              clear ht
              by_cases hs2 : o.size + 1 ≤ 9223372036854775807 ∧ g.size + 1 ≤ 9223372036854775807
              · rw [if_pos hs2] at H
                replace H := Option.bind_eq_some_iff.mp H
                obtain ⟨⟨q1, q2, q3, q4⟩, A20, H⟩ := H
                have A2 := Aside0.mk A20
                have H' := Aside0.mk H
                clear A20 H
                have HG : Aside0 (g.size + 1 ≤ 9223372036854775807) := ⟨hs2.2⟩
                have e1 : (a0.extract i (i + 1)).size = 1 := by rw [ByteArray.size_extract]; omega
                have f1 : (9223372036854775807 < o.size + (a0.extract i (i + 1)).size) = False := by rw [e1]; exact eq_false (by omega)
                have f2 : (9223372036854775807 < o.size + (min (i + 1) a0.size - i)) = False := eq_false (by omega)
                clear hs2 e1
                have g1 : IntKind.i64.wrap ((i : Int) + 1) = (i : Int) + 1 := (i64_w _).trans (by unfold wrap64; omega)
                have g2 : (0 : Int) ≤ (i : Int) + 1 := by omega
                have g3 : ((i : Int) + 1).toNat = i + 1 := by omega
                have g4 : ((i : Int) ≤ (i : Int) + 1) = True := eq_true (by omega)
                have g5 : ((i : Int) + 1 ≤ (a0.size : Int)) = True := eq_true (by omega)
                go_upto_region 9 with (first | (go_at_call 53; (with_reducible refine (impl_setOver.calls 2 a b t _ A1.out).mono ?_); rintro e w9 ⟨rfl, ⟨nd, rfl⟩⟩))
                (try simp only [Act.put, List.setIfInBounds_toArray, List.set_cons_zero, List.set_cons_succ])
                go_cut [34] (fun v34 wc => Aside0 (impl_readSet.St w wc w.heap.size (w.heap.size + 1) g a b (o ++ a0.extract i (i + 1)) x y))
                case first =>
                  go_region
                  all_goals (try go_wp2)
                  go_meet
                  case rel => exact ⟨(hst.out.drewN _).set3 _⟩
                case rest =>
                  clear hst hc1_0 hc1_1 hc1_2 hc1_3 hc1_4 hc1_5 hz1_0 hz1_1 hz1_2 hz1_3 hz1_4 hz1_5 c2b0 c2b1 f1 f2
                  have hc2_0 : wc.cell? ⟨w.heap.size + 1, 0, none⟩ = some (.string g) := (blk_cell hcut.out.b2 0).trans rfl; have hz2_0 := blk_frozen hcut.out.b2 0; have hc2_1 : wc.cell? ⟨w.heap.size + 1, 1, none⟩ = some (.int .i64 a) := (blk_cell hcut.out.b2 1).trans rfl; have hz2_1 := blk_frozen hcut.out.b2 1; have hc2_2 : wc.cell? ⟨w.heap.size + 1, 2, none⟩ = some (.int .i64 b) := (blk_cell hcut.out.b2 2).trans rfl; have hz2_2 := blk_frozen hcut.out.b2 2; have hc2_3 : wc.cell? ⟨w.heap.size + 1, 3, none⟩ = some (.string (o ++ a0.extract i (i + 1))) := (blk_cell hcut.out.b2 3).trans rfl; have hz2_3 := blk_frozen hcut.out.b2 3; have hc2_4 : wc.cell? ⟨w.heap.size + 1, 4, none⟩ = some (.int .i64 x) := (blk_cell hcut.out.b2 4).trans rfl; have hz2_4 := blk_frozen hcut.out.b2 4; have hc2_5 : wc.cell? ⟨w.heap.size + 1, 5, none⟩ = some (.int .i64 y) := (blk_cell hcut.out.b2 5).trans rfl; have hz2_5 := blk_frozen hcut.out.b2 5
                  go_upto_region 10 with (fail)
                  (try simp only [Act.put, List.setIfInBounds_toArray, List.set_cons_zero, List.set_cons_succ])
                  go_cut [6, 7] (fun v6 v7 wd => ∃ (g6 : Nat) (tie : Bool), v6 = .pointer (some ⟨g6, 0, none⟩) ∧ v7 = .bool tie ∧ Aside0 (tie = decide (a = 6 ∧ b = 6)) ∧ w.heap.size ≤ g6 ∧ w.heap.size ≠ g6 ∧ w.heap.size + 1 ≠ g6 ∧ Aside0 (wd.heap[g6]? = some (.cells #[.int .i64 4, .int .i64 2] 53 (0, 0))) ∧ Aside0 (impl_readSet.St w wd w.heap.size (w.heap.size + 1) g a b (o ++ a0.extract i (i + 1)) x y))
                  case first =>
                    have BK157 := Aside0.mk hcut.out.b1
                    have BK158 := Aside0.mk hcut.out.b2
                    have HB := Aside0.mk hcut.out.hb
                    have GE157 : Aside0 (w.heap.size ≤ w.heap.size) := ⟨Nat.le_refl _⟩
                    have GE158 : Aside0 (w.heap.size ≤ w.heap.size + 1) := ⟨Nat.le_succ _⟩
                    clear hcut
                    by_cases ha : a = 6
                    · have TE : Aside0 ((b == 6) = decide (a = 6 ∧ b = 6)) := ⟨by rw [ha]; by_cases h : b = 6 <;> simp [h]⟩
                      have c17b0 : (a == 6) = true := beq_iff_eq.2 ha
                      clear ha
                      have n0_ := Aside0.mk (blk_drew BK157.out)
                      have n1_ := Aside0.mk (blk_drew BK158.out)
                      have n2_ := Aside0.mk (below_drew1 HB.out)
                      clear BK157
                      clear BK158
                      clear HB
                      have BK157 := n0_
                      have BK158 := n1_
                      have HB := n2_
                      clear n0_ n1_ n2_
                      refine start_ (n := 12) (S := fun w' => w'.cell? ⟨(w.heap.size + 1), 0, none⟩ = some (.string g) ∧ w'.cell? ⟨(w.heap.size + 1), 1, none⟩ = some (.int .i64 a) ∧ w'.cell? ⟨(w.heap.size + 1), 2, none⟩ = some (.int .i64 b) ∧ w'.cell? ⟨(w.heap.size + 1), 3, none⟩ = some (.string (o ++ a0.extract i (i + 1))) ∧ w'.cell? ⟨(w.heap.size + 1), 4, none⟩ = some (.int .i64 x) ∧ w'.cell? ⟨(w.heap.size + 1), 5, none⟩ = some (.int .i64 y)) (ds := []) #[false, false, false, false, false, false, false, false, false, false, false, false] (by kernel_rfl) rfl rfl ⟨(blk_cell BK158.out 0).trans rfl, (blk_cell BK158.out 1).trans rfl, (blk_cell BK158.out 2).trans rfl, (blk_cell BK158.out 3).trans rfl, (blk_cell BK158.out 4).trans rfl, (blk_cell BK158.out 5).trans rfl⟩ (fun hHeld => ?_); refine with_tabW impl_readSet.tab10 impl_readSet.bits10 (fun HT_ HW_ => ?_)
                      generalize wc.drew = w27 at BK157 BK158 HB hHeld ⊢
                      refine pure_ (i := 1) (N := some 37) (v := ?_) (a' := ?_) #[false, true, false, false, false, false, false, false, false, false, false, false] rfl rfl (any_of HT_.out (by kernel_rfl)) (fun _ _ _ h => h) (Or.inl ⟨by rfl, ?_⟩) ?_ ?_
                      rotate_left
                      · intro w'
                        go_simp
                        with_reducible rfl
                      rotate_left
                      · simp only [Act.put, List.setIfInBounds_toArray, List.set_cons_zero, List.set_cons_succ, i64_w, i32_w]
                        rfl
                      refine take_ (i := 2) (N := some 38) (v := ?_) (a' := ?_) #[false, true, true, false, false, false, false, false, false, false, false, false] rfl rfl (take_ofW HT_.out HW_.out (by kernel_rfl)) (fun _ _ _ h => h) (Or.inl ⟨by rfl, ?_⟩) hHeld ?_ ?_
                      rotate_left
                      · rintro w' ⟨s0, s1, s2, s3, s4, s5⟩
                        go_simp
                        with_reducible rfl
                      rotate_left
                      · simp only [Act.put, List.setIfInBounds_toArray, List.set_cons_zero, List.set_cons_succ, i64_w, i32_w]
                        rfl
                      refine pure_ (i := 3) (N := some 39) (v := ?_) (a' := ?_) #[false, true, true, true, false, false, false, false, false, false, false, false] rfl rfl (any_of HT_.out (by kernel_rfl)) (fun _ _ _ h => h) (Or.inl ⟨by rfl, ?_⟩) ?_ ?_
                      rotate_left
                      · intro w'
                        go_simp
                        with_reducible rfl
                      rotate_left
                      · simp only [Act.put, List.setIfInBounds_toArray, List.set_cons_zero, List.set_cons_succ, i64_w, i32_w]
                        rfl
                      refine join_ (σ := Nat) 2 #[true, true, true, true, true, true, true, true, true, true, false, false] (fun s_ => [(36, .agg #[.int .i64 4, .int .i64 2]), (6, .pointer (some ⟨s_, 0, none⟩)), (40, .bool (a == 6)), (41, .pointer (some ⟨(w.heap.size + 1), 2, none⟩)), (42, .int .i64 b), (43, .bool (b == 6)), (44, .bool (b == 6))]) (fun s_ w' => (w'.cell? ⟨(w.heap.size + 1), 0, none⟩ = some (.string g) ∧ w'.cell? ⟨(w.heap.size + 1), 1, none⟩ = some (.int .i64 a) ∧ w'.cell? ⟨(w.heap.size + 1), 2, none⟩ = some (.int .i64 b) ∧ w'.cell? ⟨(w.heap.size + 1), 3, none⟩ = some (.string (o ++ a0.extract i (i + 1))) ∧ w'.cell? ⟨(w.heap.size + 1), 4, none⟩ = some (.int .i64 x) ∧ w'.cell? ⟨(w.heap.size + 1), 5, none⟩ = some (.int .i64 y)) ∧ (w'.heap[w.heap.size]? = some (.cells #[.string (⟨#[]⟩ : ByteArray), .int .i64 0, .int .i64 0, .string (⟨#[]⟩ : ByteArray), .int .i64 0, .int .i64 0] 47 (0, 0))) ∧ (w'.heap[(w.heap.size + 1)]? = some (.cells #[.string g, .int .i64 a, .int .i64 b, .string (o ++ a0.extract i (i + 1)), .int .i64 x, .int .i64 y] 47 (0, 0))) ∧ (w'.heap[s_]? = some (.cells #[.int .i64 0, .int .i64 0] 53 (0, 0))) ∧ (w.heap.size ≤ s_) ∧ (w.heap.size ≤ s_) ∧ (w.heap.size ≠ s_) ∧ (s_ ≠ w.heap.size) ∧ ((w.heap.size + 1) ≠ s_) ∧ (s_ ≠ (w.heap.size + 1)) ∧ (Below w.heap.size w w')) ?_ ?_
                      rotate_left
                      · intro hCont
                        refine two_ (i := 0) (j := 9) (Ni := some 36) (Nj := some 6) #[true, true, true, true, false, false, false, false, false, false, false, false] #[false, true, true, true, false, false, false, false, false, true, false, false] rfl rfl rfl rfl (two_of HT_.out (by kernel_rfl)) (by decide) (by decide) (fun K hK => ?_) (fun K hK => ?_)
                        · skip
                          refine goes_ Tryd.func58 (by kernel_rfl) rfl #[] (by rfl) rfl rfl (by (try simp only [List.map_toArray, List.map_cons, List.map_nil]); first | done | rfl | (simp only [List.length_drop, List.length_take]; rfl)) ?_
                          with_reducible refine (impl_tennis.calls  4 2 _ T1.out).mono ?_
                          rintro e w28 ⟨rfl, hb⟩
                          refine ⟨_, rfl, ?_⟩
                          have n0_ := Aside0.mk (blk_below (g := w.heap.size) (o := .cells #[.string (⟨#[]⟩ : ByteArray), .int .i64 0, .int .i64 0, .string (⟨#[]⟩ : ByteArray), .int .i64 0, .int .i64 0] 47 (0, 0)) (by (with_reducible repeat (first | refine blk_drewN ?_ _ | refine blk_drew ?_ | refine blk_alloc ?_ _)); exact BK157.out) hb)
                          have n1_ := Aside0.mk (blk_below (g := (w.heap.size + 1)) (o := .cells #[.string g, .int .i64 a, .int .i64 b, .string (o ++ a0.extract i (i + 1)), .int .i64 x, .int .i64 y] 47 (0, 0)) (by (with_reducible repeat (first | refine blk_drewN ?_ _ | refine blk_drew ?_ | refine blk_alloc ?_ _)); exact BK158.out) hb)
                          have n2_ := Aside0.mk (below_step (by repeat (first | (with_reducible first | exact HB.out | apply below_alloc | apply pw_below_drewN | apply below_drew1 | refine below_set ?_ GE157.out | refine below_set ?_ GE158.out) | exact HB.out)) hb)
                          clear BK157
                          clear BK158
                          clear HB
                          have BK157 := n0_
                          have BK158 := n1_
                          have HB := n2_
                          clear n0_ n1_ n2_
                          (try clear hb)
                          (try clear hb2)
                          (try clear hk)
                          (try clear hi)
                          refine hK.out _ _ ⟨(blk_cell BK158.out 0).trans rfl, (blk_cell BK158.out 1).trans rfl, (blk_cell BK158.out 2).trans rfl, (blk_cell BK158.out 3).trans rfl, (blk_cell BK158.out 4).trans rfl, (blk_cell BK158.out 5).trans rfl⟩ (fun hHeld => ?_)
                          clear hK K
                          refine norm_ (a' := ?_) ?_ ?_
                          rotate_left
                          · show Act.put _ (some 36) _ = _
                            simp only [Act.put, List.setIfInBounds_toArray, List.set_cons_zero, List.set_cons_succ, i64_w, i32_w]
                            rfl
                          refine pure_ (i := 4) (N := some 40) (v := ?_) (a' := ?_) #[true, true, true, true, true, false, false, false, false, false, false, false] rfl rfl (any_of HT_.out (by kernel_rfl)) (fun _ _ _ h => h) (Or.inl ⟨by rfl, ?_⟩) ?_ ?_
                          rotate_left
                          · intro w'
                            go_simp
                            with_reducible rfl
                          rotate_left
                          · simp only [Act.put, List.setIfInBounds_toArray, List.set_cons_zero, List.set_cons_succ, i64_w, i32_w]
                            rfl
                          refine pure_ (i := 5) (N := some 41) (v := ?_) (a' := ?_) #[true, true, true, true, true, true, false, false, false, false, false, false] rfl rfl (any_of HT_.out (by kernel_rfl)) (fun _ _ _ h => h) (Or.inl ⟨by rfl, ?_⟩) ?_ ?_
                          rotate_left
                          · intro w'
                            go_simp
                            with_reducible rfl
                          rotate_left
                          · simp only [Act.put, List.setIfInBounds_toArray, List.set_cons_zero, List.set_cons_succ, i64_w, i32_w]
                            rfl
                          refine take_ (i := 6) (N := some 42) (v := ?_) (a' := ?_) #[true, true, true, true, true, true, true, false, false, false, false, false] rfl rfl (take_ofW HT_.out HW_.out (by kernel_rfl)) (fun _ _ _ h => h) (Or.inl ⟨by rfl, ?_⟩) hHeld ?_ ?_
                          rotate_left
                          · rintro w' ⟨s0, s1, s2, s3, s4, s5⟩
                            go_simp
                            with_reducible rfl
                          rotate_left
                          · simp only [Act.put, List.setIfInBounds_toArray, List.set_cons_zero, List.set_cons_succ, i64_w, i32_w]
                            rfl
                          refine pure_ (i := 7) (N := some 43) (v := ?_) (a' := ?_) #[true, true, true, true, true, true, true, true, false, false, false, false] rfl rfl (any_of HT_.out (by kernel_rfl)) (fun _ _ _ h => h) (Or.inl ⟨by rfl, ?_⟩) ?_ ?_
                          rotate_left
                          · intro w'
                            go_simp
                            with_reducible rfl
                          rotate_left
                          · simp only [Act.put, List.setIfInBounds_toArray, List.set_cons_zero, List.set_cons_succ, i64_w, i32_w]
                            rfl
                          refine pure_ (i := 8) (N := some 44) (v := ?_) (a' := ?_) #[true, true, true, true, true, true, true, true, true, false, false, false] rfl rfl (any_of HT_.out (by kernel_rfl)) (fun _ _ _ h => h) (Or.inl ⟨by rfl, ?_⟩) ?_ ?_
                          rotate_left
                          · intro w'
                            go_simp
                            with_reducible rfl
                          rotate_left
                          · simp only [Act.put, List.setIfInBounds_toArray, List.set_cons_zero, List.set_cons_succ, i64_w, i32_w]
                            rfl
                          refine one_ (i := 9) (N := some 6) #[true, true, true, true, true, true, true, true, true, true, false, false] rfl rfl (one_of HT_.out (by kernel_rfl)) (by decide) (fun K hK => ?_)
                          refine box_step ?hg (N := 6) ?hd (cs := #[.int .i64 0, .int .i64 0]) (t := 53) ?hr ?_; (case hd => rfl); (case hg => rfl); (case hr => first | (go_simp; done) | (go_simp; rfl))
                          intro gb163 hg w29 hbox hb
                          have n0_ := Aside0.mk (blk_below (g := w.heap.size) (o := .cells #[.string (⟨#[]⟩ : ByteArray), .int .i64 0, .int .i64 0, .string (⟨#[]⟩ : ByteArray), .int .i64 0, .int .i64 0] 47 (0, 0)) (by (with_reducible repeat (first | refine blk_drewN ?_ _ | refine blk_drew ?_ | refine blk_alloc ?_ _)); exact BK157.out) hb)
                          have n1_ := Aside0.mk (blk_below (g := (w.heap.size + 1)) (o := .cells #[.string g, .int .i64 a, .int .i64 b, .string (o ++ a0.extract i (i + 1)), .int .i64 x, .int .i64 y] 47 (0, 0)) (by (with_reducible repeat (first | refine blk_drewN ?_ _ | refine blk_drew ?_ | refine blk_alloc ?_ _)); exact BK158.out) hb)
                          have n2_ := Aside0.mk (below_step (by repeat (first | (with_reducible first | exact HB.out | apply below_alloc | apply pw_below_drewN | apply below_drew1 | refine below_set ?_ GE157.out | refine below_set ?_ GE158.out) | exact HB.out)) hb)
                          have n3_ := Aside0.mk (hbox)
                          have n4_ := Aside0.mk ((by rw [hg]; exact (below_size (by repeat (first | (with_reducible first | exact HB.out | apply below_alloc | apply pw_below_drewN | apply below_drew1 | refine below_set ?_ GE157.out | refine below_set ?_ GE158.out) | exact HB.out))) : w.heap.size ≤ gb163))
                          have n5_ := Aside0.mk ((by rw [hg]; exact (below_size (by repeat (first | (with_reducible first | exact HB.out | apply below_alloc | apply pw_below_drewN | apply below_drew1 | refine below_set ?_ GE157.out | refine below_set ?_ GE158.out) | exact HB.out))) : w.heap.size ≤ gb163))
                          have n6_ := Aside0.mk ((by rw [hg]; exact Nat.ne_of_lt (blk_lt (g := w.heap.size) (o := .cells #[.string (⟨#[]⟩ : ByteArray), .int .i64 0, .int .i64 0, .string (⟨#[]⟩ : ByteArray), .int .i64 0, .int .i64 0] 47 (0, 0)) (by (with_reducible repeat (first | refine blk_drewN ?_ _ | refine blk_drew ?_ | refine blk_alloc ?_ _)); exact BK157.out)) : w.heap.size ≠ gb163))
                          have n7_ := Aside0.mk ((by rw [hg]; exact Nat.ne_of_gt (blk_lt (g := w.heap.size) (o := .cells #[.string (⟨#[]⟩ : ByteArray), .int .i64 0, .int .i64 0, .string (⟨#[]⟩ : ByteArray), .int .i64 0, .int .i64 0] 47 (0, 0)) (by (with_reducible repeat (first | refine blk_drewN ?_ _ | refine blk_drew ?_ | refine blk_alloc ?_ _)); exact BK157.out)) : gb163 ≠ w.heap.size))
                          have n8_ := Aside0.mk ((by rw [hg]; exact Nat.ne_of_lt (blk_lt (g := (w.heap.size + 1)) (o := .cells #[.string g, .int .i64 a, .int .i64 b, .string (o ++ a0.extract i (i + 1)), .int .i64 x, .int .i64 y] 47 (0, 0)) (by (with_reducible repeat (first | refine blk_drewN ?_ _ | refine blk_drew ?_ | refine blk_alloc ?_ _)); exact BK158.out)) : (w.heap.size + 1) ≠ gb163))
                          have n9_ := Aside0.mk ((by rw [hg]; exact Nat.ne_of_gt (blk_lt (g := (w.heap.size + 1)) (o := .cells #[.string g, .int .i64 a, .int .i64 b, .string (o ++ a0.extract i (i + 1)), .int .i64 x, .int .i64 y] 47 (0, 0)) (by (with_reducible repeat (first | refine blk_drewN ?_ _ | refine blk_drew ?_ | refine blk_alloc ?_ _)); exact BK158.out)) : gb163 ≠ (w.heap.size + 1)))
                          clear BK157
                          clear BK158
                          clear HB
                          have BK157 := n0_
                          have BK158 := n1_
                          have HB := n2_
                          have BK163 := n3_
                          have GW163 := n4_
                          have GE163 := n5_
                          have NB157_163 := n6_
                          have NB163_157 := n7_
                          have NB158_163 := n8_
                          have NB163_158 := n9_
                          clear n0_ n1_ n2_ n3_ n4_ n5_ n6_ n7_ n8_ n9_
                          clear hb hbox hg
                          refine hK.out _ _ ⟨(blk_cell BK158.out 0).trans rfl, (blk_cell BK158.out 1).trans rfl, (blk_cell BK158.out 2).trans rfl, (blk_cell BK158.out 3).trans rfl, (blk_cell BK158.out 4).trans rfl, (blk_cell BK158.out 5).trans rfl⟩ (fun hHeld => ?_)
                          clear hK K
                          refine norm_ (a' := ?_) ?_ ?_
                          rotate_left
                          · show Act.put _ (some 6) _ = _
                            simp only [Act.put, List.setIfInBounds_toArray, List.set_cons_zero, List.set_cons_succ, i64_w, i32_w]
                            rfl
                          exact norm_ (by first | (simp only [putAll, Act.put, List.setIfInBounds_toArray, List.set_cons_zero, List.set_cons_succ]; done) | (simp only [putAll, Act.put, List.setIfInBounds_toArray, List.set_cons_zero, List.set_cons_succ, c17b0]; done)) (hCont (gb163) _ ⟨hHeld, (by (with_reducible repeat (first | refine blk_drewN ?_ _ | refine blk_drew ?_ | refine blk_alloc ?_ _)); exact BK157.out), (by (with_reducible repeat (first | refine blk_drewN ?_ _ | refine blk_drew ?_ | refine blk_alloc ?_ _)); exact BK158.out), (by (with_reducible repeat (first | refine blk_drewN ?_ _ | refine blk_drew ?_ | refine blk_alloc ?_ _)); exact BK163.out), GW163.out, GE163.out, NB157_163.out, NB163_157.out, NB158_163.out, NB163_158.out, (by repeat (first | (with_reducible first | exact HB.out | apply below_alloc | apply pw_below_drewN | apply below_drew1 | refine below_set ?_ GE157.out | refine below_set ?_ GE158.out | refine below_set ?_ GE163.out) | exact HB.out))⟩)
                        · skip
                          refine box_step ?hg (N := 6) ?hd (cs := #[.int .i64 0, .int .i64 0]) (t := 53) ?hr ?_; (case hd => rfl); (case hg => rfl); (case hr => first | (go_simp; done) | (go_simp; rfl))
                          intro gb163 hg w28 hbox hb
                          have n0_ := Aside0.mk (blk_below (g := w.heap.size) (o := .cells #[.string (⟨#[]⟩ : ByteArray), .int .i64 0, .int .i64 0, .string (⟨#[]⟩ : ByteArray), .int .i64 0, .int .i64 0] 47 (0, 0)) (by (with_reducible repeat (first | refine blk_drewN ?_ _ | refine blk_drew ?_ | refine blk_alloc ?_ _)); exact BK157.out) hb)
                          have n1_ := Aside0.mk (blk_below (g := (w.heap.size + 1)) (o := .cells #[.string g, .int .i64 a, .int .i64 b, .string (o ++ a0.extract i (i + 1)), .int .i64 x, .int .i64 y] 47 (0, 0)) (by (with_reducible repeat (first | refine blk_drewN ?_ _ | refine blk_drew ?_ | refine blk_alloc ?_ _)); exact BK158.out) hb)
                          have n2_ := Aside0.mk (below_step (by repeat (first | (with_reducible first | exact HB.out | apply below_alloc | apply pw_below_drewN | apply below_drew1 | refine below_set ?_ GE157.out | refine below_set ?_ GE158.out) | exact HB.out)) hb)
                          have n3_ := Aside0.mk (hbox)
                          have n4_ := Aside0.mk ((by rw [hg]; exact (below_size (by repeat (first | (with_reducible first | exact HB.out | apply below_alloc | apply pw_below_drewN | apply below_drew1 | refine below_set ?_ GE157.out | refine below_set ?_ GE158.out) | exact HB.out))) : w.heap.size ≤ gb163))
                          have n5_ := Aside0.mk ((by rw [hg]; exact (below_size (by repeat (first | (with_reducible first | exact HB.out | apply below_alloc | apply pw_below_drewN | apply below_drew1 | refine below_set ?_ GE157.out | refine below_set ?_ GE158.out) | exact HB.out))) : w.heap.size ≤ gb163))
                          have n6_ := Aside0.mk ((by rw [hg]; exact Nat.ne_of_lt (blk_lt (g := w.heap.size) (o := .cells #[.string (⟨#[]⟩ : ByteArray), .int .i64 0, .int .i64 0, .string (⟨#[]⟩ : ByteArray), .int .i64 0, .int .i64 0] 47 (0, 0)) (by (with_reducible repeat (first | refine blk_drewN ?_ _ | refine blk_drew ?_ | refine blk_alloc ?_ _)); exact BK157.out)) : w.heap.size ≠ gb163))
                          have n7_ := Aside0.mk ((by rw [hg]; exact Nat.ne_of_gt (blk_lt (g := w.heap.size) (o := .cells #[.string (⟨#[]⟩ : ByteArray), .int .i64 0, .int .i64 0, .string (⟨#[]⟩ : ByteArray), .int .i64 0, .int .i64 0] 47 (0, 0)) (by (with_reducible repeat (first | refine blk_drewN ?_ _ | refine blk_drew ?_ | refine blk_alloc ?_ _)); exact BK157.out)) : gb163 ≠ w.heap.size))
                          have n8_ := Aside0.mk ((by rw [hg]; exact Nat.ne_of_lt (blk_lt (g := (w.heap.size + 1)) (o := .cells #[.string g, .int .i64 a, .int .i64 b, .string (o ++ a0.extract i (i + 1)), .int .i64 x, .int .i64 y] 47 (0, 0)) (by (with_reducible repeat (first | refine blk_drewN ?_ _ | refine blk_drew ?_ | refine blk_alloc ?_ _)); exact BK158.out)) : (w.heap.size + 1) ≠ gb163))
                          have n9_ := Aside0.mk ((by rw [hg]; exact Nat.ne_of_gt (blk_lt (g := (w.heap.size + 1)) (o := .cells #[.string g, .int .i64 a, .int .i64 b, .string (o ++ a0.extract i (i + 1)), .int .i64 x, .int .i64 y] 47 (0, 0)) (by (with_reducible repeat (first | refine blk_drewN ?_ _ | refine blk_drew ?_ | refine blk_alloc ?_ _)); exact BK158.out)) : gb163 ≠ (w.heap.size + 1)))
                          clear BK157
                          clear BK158
                          clear HB
                          have BK157 := n0_
                          have BK158 := n1_
                          have HB := n2_
                          have BK163 := n3_
                          have GW163 := n4_
                          have GE163 := n5_
                          have NB157_163 := n6_
                          have NB163_157 := n7_
                          have NB158_163 := n8_
                          have NB163_158 := n9_
                          clear n0_ n1_ n2_ n3_ n4_ n5_ n6_ n7_ n8_ n9_
                          clear hb hbox hg
                          refine hK.out _ _ ⟨(blk_cell BK158.out 0).trans rfl, (blk_cell BK158.out 1).trans rfl, (blk_cell BK158.out 2).trans rfl, (blk_cell BK158.out 3).trans rfl, (blk_cell BK158.out 4).trans rfl, (blk_cell BK158.out 5).trans rfl⟩ (fun hHeld => ?_)
                          clear hK K
                          refine norm_ (a' := ?_) ?_ ?_
                          rotate_left
                          · show Act.put _ (some 6) _ = _
                            simp only [Act.put, List.setIfInBounds_toArray, List.set_cons_zero, List.set_cons_succ, i64_w, i32_w]
                            rfl
                          refine one_ (i := 0) (N := some 36) #[true, true, true, true, false, false, false, false, false, true, false, false] rfl rfl (one_of HT_.out (by kernel_rfl)) (by decide) (fun K hK => ?_)
                          refine goes_ Tryd.func58 (by kernel_rfl) rfl #[] (by rfl) rfl rfl (by (try simp only [List.map_toArray, List.map_cons, List.map_nil]); first | done | rfl | (simp only [List.length_drop, List.length_take]; rfl)) ?_
                          with_reducible refine (impl_tennis.calls  4 2 _ T1.out).mono ?_
                          rintro e w29 ⟨rfl, hb⟩
                          refine ⟨_, rfl, ?_⟩
                          have n0_ := Aside0.mk (blk_below (g := w.heap.size) (o := .cells #[.string (⟨#[]⟩ : ByteArray), .int .i64 0, .int .i64 0, .string (⟨#[]⟩ : ByteArray), .int .i64 0, .int .i64 0] 47 (0, 0)) (by (with_reducible repeat (first | refine blk_drewN ?_ _ | refine blk_drew ?_ | refine blk_alloc ?_ _)); exact BK157.out) hb)
                          have n1_ := Aside0.mk (blk_below (g := (w.heap.size + 1)) (o := .cells #[.string g, .int .i64 a, .int .i64 b, .string (o ++ a0.extract i (i + 1)), .int .i64 x, .int .i64 y] 47 (0, 0)) (by (with_reducible repeat (first | refine blk_drewN ?_ _ | refine blk_drew ?_ | refine blk_alloc ?_ _)); exact BK158.out) hb)
                          have n2_ := Aside0.mk (blk_below (g := gb163) (o := .cells #[.int .i64 0, .int .i64 0] 53 (0, 0)) (by (with_reducible repeat (first | refine blk_drewN ?_ _ | refine blk_drew ?_ | refine blk_alloc ?_ _)); exact BK163.out) hb)
                          have n3_ := Aside0.mk (below_step (by repeat (first | (with_reducible first | exact HB.out | apply below_alloc | apply pw_below_drewN | apply below_drew1 | refine below_set ?_ GE157.out | refine below_set ?_ GE158.out | refine below_set ?_ GE163.out) | exact HB.out)) hb)
                          clear BK157
                          clear BK158
                          clear BK163
                          clear HB
                          have BK157 := n0_
                          have BK158 := n1_
                          have BK163 := n2_
                          have HB := n3_
                          clear n0_ n1_ n2_ n3_
                          (try clear hb)
                          (try clear hb2)
                          (try clear hk)
                          (try clear hi)
                          refine hK.out _ _ ⟨(blk_cell BK158.out 0).trans rfl, (blk_cell BK158.out 1).trans rfl, (blk_cell BK158.out 2).trans rfl, (blk_cell BK158.out 3).trans rfl, (blk_cell BK158.out 4).trans rfl, (blk_cell BK158.out 5).trans rfl⟩ (fun hHeld => ?_)
                          clear hK K
                          refine norm_ (a' := ?_) ?_ ?_
                          rotate_left
                          · show Act.put _ (some 36) _ = _
                            simp only [Act.put, List.setIfInBounds_toArray, List.set_cons_zero, List.set_cons_succ, i64_w, i32_w]
                            rfl
                          refine pure_ (i := 4) (N := some 40) (v := ?_) (a' := ?_) #[true, true, true, true, true, false, false, false, false, true, false, false] rfl rfl (any_of HT_.out (by kernel_rfl)) (fun _ _ _ h => h) (Or.inl ⟨by rfl, ?_⟩) ?_ ?_
                          rotate_left
                          · intro w'
                            go_simp
                            with_reducible rfl
                          rotate_left
                          · simp only [Act.put, List.setIfInBounds_toArray, List.set_cons_zero, List.set_cons_succ, i64_w, i32_w]
                            rfl
                          refine pure_ (i := 5) (N := some 41) (v := ?_) (a' := ?_) #[true, true, true, true, true, true, false, false, false, true, false, false] rfl rfl (any_of HT_.out (by kernel_rfl)) (fun _ _ _ h => h) (Or.inl ⟨by rfl, ?_⟩) ?_ ?_
                          rotate_left
                          · intro w'
                            go_simp
                            with_reducible rfl
                          rotate_left
                          · simp only [Act.put, List.setIfInBounds_toArray, List.set_cons_zero, List.set_cons_succ, i64_w, i32_w]
                            rfl
                          refine take_ (i := 6) (N := some 42) (v := ?_) (a' := ?_) #[true, true, true, true, true, true, true, false, false, true, false, false] rfl rfl (take_ofW HT_.out HW_.out (by kernel_rfl)) (fun _ _ _ h => h) (Or.inl ⟨by rfl, ?_⟩) hHeld ?_ ?_
                          rotate_left
                          · rintro w' ⟨s0, s1, s2, s3, s4, s5⟩
                            go_simp
                            with_reducible rfl
                          rotate_left
                          · simp only [Act.put, List.setIfInBounds_toArray, List.set_cons_zero, List.set_cons_succ, i64_w, i32_w]
                            rfl
                          refine pure_ (i := 7) (N := some 43) (v := ?_) (a' := ?_) #[true, true, true, true, true, true, true, true, false, true, false, false] rfl rfl (any_of HT_.out (by kernel_rfl)) (fun _ _ _ h => h) (Or.inl ⟨by rfl, ?_⟩) ?_ ?_
                          rotate_left
                          · intro w'
                            go_simp
                            with_reducible rfl
                          rotate_left
                          · simp only [Act.put, List.setIfInBounds_toArray, List.set_cons_zero, List.set_cons_succ, i64_w, i32_w]
                            rfl
                          refine pure_ (i := 8) (N := some 44) (v := ?_) (a' := ?_) #[true, true, true, true, true, true, true, true, true, true, false, false] rfl rfl (any_of HT_.out (by kernel_rfl)) (fun _ _ _ h => h) (Or.inl ⟨by rfl, ?_⟩) ?_ ?_
                          rotate_left
                          · intro w'
                            go_simp
                            with_reducible rfl
                          rotate_left
                          · simp only [Act.put, List.setIfInBounds_toArray, List.set_cons_zero, List.set_cons_succ, i64_w, i32_w]
                            rfl
                          exact norm_ (by first | (simp only [putAll, Act.put, List.setIfInBounds_toArray, List.set_cons_zero, List.set_cons_succ]; done) | (simp only [putAll, Act.put, List.setIfInBounds_toArray, List.set_cons_zero, List.set_cons_succ, c17b0]; done)) (hCont (gb163) _ ⟨hHeld, (by (with_reducible repeat (first | refine blk_drewN ?_ _ | refine blk_drew ?_ | refine blk_alloc ?_ _)); exact BK157.out), (by (with_reducible repeat (first | refine blk_drewN ?_ _ | refine blk_drew ?_ | refine blk_alloc ?_ _)); exact BK158.out), (by (with_reducible repeat (first | refine blk_drewN ?_ _ | refine blk_drew ?_ | refine blk_alloc ?_ _)); exact BK163.out), GW163.out, GE163.out, NB157_163.out, NB163_157.out, NB158_163.out, NB163_158.out, (by repeat (first | (with_reducible first | exact HB.out | apply below_alloc | apply pw_below_drewN | apply below_drew1 | refine below_set ?_ GE157.out | refine below_set ?_ GE158.out | refine below_set ?_ GE163.out) | exact HB.out))⟩)
                      rintro gb163 w30 ⟨hS_, h0_, h1_, h2_, h3_, h4_, h5_, h6_, h7_, h8_, h9_⟩
                      have n0_ : Aside0 (w30.heap[w.heap.size]? = some (.cells #[.string (⟨#[]⟩ : ByteArray), .int .i64 0, .int .i64 0, .string (⟨#[]⟩ : ByteArray), .int .i64 0, .int .i64 0] 47 (0, 0))) := ⟨h0_⟩
                      have n1_ : Aside0 (w30.heap[(w.heap.size + 1)]? = some (.cells #[.string g, .int .i64 a, .int .i64 b, .string (o ++ a0.extract i (i + 1)), .int .i64 x, .int .i64 y] 47 (0, 0))) := ⟨h1_⟩
                      have n2_ : Aside0 (w30.heap[gb163]? = some (.cells #[.int .i64 0, .int .i64 0] 53 (0, 0))) := ⟨h2_⟩
                      have n3_ : Aside0 (w.heap.size ≤ gb163) := ⟨h3_⟩
                      have n4_ : Aside0 (w.heap.size ≤ gb163) := ⟨h4_⟩
                      have n5_ : Aside0 (w.heap.size ≠ gb163) := ⟨h5_⟩
                      have n6_ : Aside0 (gb163 ≠ w.heap.size) := ⟨h6_⟩
                      have n7_ : Aside0 ((w.heap.size + 1) ≠ gb163) := ⟨h7_⟩
                      have n8_ : Aside0 (gb163 ≠ (w.heap.size + 1)) := ⟨h8_⟩
                      have n9_ : Aside0 (Below w.heap.size w w30) := ⟨h9_⟩
                      clear BK157
                      clear BK158
                      clear HB
                      clear h0_ h1_ h2_ h3_ h4_ h5_ h6_ h7_ h8_ h9_
                      have BK157 := n0_
                      have BK158 := n1_
                      have BK163 := n2_
                      have GW163 := n3_
                      have GE163 := n4_
                      have NB157_163 := n5_
                      have NB163_157 := n6_
                      have NB158_163 := n7_
                      have NB163_158 := n8_
                      have HB := n9_
                      clear n0_ n1_ n2_ n3_ n4_ n5_ n6_ n7_ n8_ n9_
                      have hHeld : w30.cell? ⟨(w.heap.size + 1), 0, none⟩ = some (.string g) ∧ w30.cell? ⟨(w.heap.size + 1), 1, none⟩ = some (.int .i64 a) ∧ w30.cell? ⟨(w.heap.size + 1), 2, none⟩ = some (.int .i64 b) ∧ w30.cell? ⟨(w.heap.size + 1), 3, none⟩ = some (.string (o ++ a0.extract i (i + 1))) ∧ w30.cell? ⟨(w.heap.size + 1), 4, none⟩ = some (.int .i64 x) ∧ w30.cell? ⟨(w.heap.size + 1), 5, none⟩ = some (.int .i64 y) := hS_
                      refine norm_ (a' := ?_) ?_ ?_
                      rotate_left
                      · simp only [putAll, Act.put, List.setIfInBounds_toArray, List.set_cons_zero, List.set_cons_succ]
                        rfl
                      refine one_ (i := 10) (N := none) #[true, true, true, true, true, true, true, true, true, true, true, false] rfl rfl (one_of HT_.out (by kernel_rfl)) (by decide) (fun K hK => ?_)
                      have hs31 : w30.cell? ⟨gb163, 0, none⟩ = some (.int .i64 0) := (blk_cell BK163.out 0).trans rfl
                      have hfs31 := blk_frozen BK163.out 0
                      have hns31_0 := NB157_163.out
                      have hns31_1 := NB158_163.out
                      have hms31_0 := NB163_157.out
                      have hms31_1 := NB163_158.out
                      have hs32 : w30.cell? ⟨gb163, 1, none⟩ = some (.int .i64 0) := (blk_cell BK163.out 1).trans rfl
                      have hfs32 := blk_frozen BK163.out 1
                      have hns32_0 := NB157_163.out
                      have hns32_1 := NB158_163.out
                      have hms32_0 := NB163_157.out
                      have hms32_1 := NB163_158.out
                      refine skip_ (w1 := ?_) (by rfl) rfl ?_ ?_
                      rotate_left
                      · go_simp
                        rfl
                      refine hK.out _ _ ⟨((cell_far (p := ⟨gb163, _, none⟩) NB158_163.out _).trans (((cell_far (p := ⟨gb163, _, none⟩) NB158_163.out _).trans (hHeld.1)))), ((cell_far (p := ⟨gb163, _, none⟩) NB158_163.out _).trans (((cell_far (p := ⟨gb163, _, none⟩) NB158_163.out _).trans (hHeld.2.1)))), ((cell_far (p := ⟨gb163, _, none⟩) NB158_163.out _).trans (((cell_far (p := ⟨gb163, _, none⟩) NB158_163.out _).trans (hHeld.2.2.1)))), ((cell_far (p := ⟨gb163, _, none⟩) NB158_163.out _).trans (((cell_far (p := ⟨gb163, _, none⟩) NB158_163.out _).trans (hHeld.2.2.2.1)))), ((cell_far (p := ⟨gb163, _, none⟩) NB158_163.out _).trans (((cell_far (p := ⟨gb163, _, none⟩) NB158_163.out _).trans (hHeld.2.2.2.2.1)))), ((cell_far (p := ⟨gb163, _, none⟩) NB158_163.out _).trans (((cell_far (p := ⟨gb163, _, none⟩) NB158_163.out _).trans (hHeld.2.2.2.2.2))))⟩ (fun hHeld => ?_)
                      clear hK K
                      refine pure_ (i := 11) (N := some 7) (v := ?_) (a' := ?_) #[true, true, true, true, true, true, true, true, true, true, true, true] rfl rfl (any_of HT_.out (by kernel_rfl)) (fun _ _ _ h => h) (Or.inl ⟨by rfl, ?_⟩) ?_ ?_
                      rotate_left
                      · intro w'
                        go_simp
                        with_reducible rfl
                      rotate_left
                      · simp only [Act.put, List.setIfInBounds_toArray, List.set_cons_zero, List.set_cons_succ, i64_w, i32_w]
                        rfl
                      refine done_ (done_of HT_.out (by kernel_rfl)) ?_
                      (try go_wp2)
                      go_meet
                      case rel => exact ⟨gb163, (b == 6), rfl, (by first | rfl | (simp; done)), TE, GE163.out, NB157_163.out, NB158_163.out, ⟨blk_put (cs := #[.int .i64 4, .int .i64 0]) (blk_put (cs := #[.int .i64 0, .int .i64 0]) BK163.out 0 _ rfl) 1 _ rfl⟩, ⟨impl_readSet.St.far (impl_readSet.St.far ⟨BK157.out, BK158.out, HB.out, Nat.le_refl _, Nat.le_succ _, by omega⟩ NB157_163.out NB158_163.out GE163.out _ _) NB157_163.out NB158_163.out GE163.out _ _⟩⟩
                    · have TE : Aside0 (false = decide (a = 6 ∧ b = 6)) := ⟨(decide_eq_false (fun h => ha h.1)).symm⟩
                      have c17b0 : (a == 6) = false := beq_eq_false_iff_ne.2 ha
                      clear ha
                      have n0_ := Aside0.mk (blk_drew BK157.out)
                      have n1_ := Aside0.mk (blk_drew BK158.out)
                      have n2_ := Aside0.mk (below_drew1 HB.out)
                      clear BK157
                      clear BK158
                      clear HB
                      have BK157 := n0_
                      have BK158 := n1_
                      have HB := n2_
                      clear n0_ n1_ n2_
                      refine start_ (n := 12) (S := fun w' => w'.cell? ⟨(w.heap.size + 1), 0, none⟩ = some (.string g) ∧ w'.cell? ⟨(w.heap.size + 1), 1, none⟩ = some (.int .i64 a) ∧ w'.cell? ⟨(w.heap.size + 1), 2, none⟩ = some (.int .i64 b) ∧ w'.cell? ⟨(w.heap.size + 1), 3, none⟩ = some (.string (o ++ a0.extract i (i + 1))) ∧ w'.cell? ⟨(w.heap.size + 1), 4, none⟩ = some (.int .i64 x) ∧ w'.cell? ⟨(w.heap.size + 1), 5, none⟩ = some (.int .i64 y)) (ds := []) #[false, false, false, false, false, false, false, false, false, false, false, false] (by kernel_rfl) rfl rfl ⟨(blk_cell BK158.out 0).trans rfl, (blk_cell BK158.out 1).trans rfl, (blk_cell BK158.out 2).trans rfl, (blk_cell BK158.out 3).trans rfl, (blk_cell BK158.out 4).trans rfl, (blk_cell BK158.out 5).trans rfl⟩ (fun hHeld => ?_); refine with_tabW impl_readSet.tab10 impl_readSet.bits10 (fun HT_ HW_ => ?_)
                      generalize wc.drew = w228 at BK157 BK158 HB hHeld ⊢
                      refine pure_ (i := 1) (N := some 37) (v := ?_) (a' := ?_) #[false, true, false, false, false, false, false, false, false, false, false, false] rfl rfl (any_of HT_.out (by kernel_rfl)) (fun _ _ _ h => h) (Or.inl ⟨by rfl, ?_⟩) ?_ ?_
                      rotate_left
                      · intro w'
                        go_simp
                        with_reducible rfl
                      rotate_left
                      · simp only [Act.put, List.setIfInBounds_toArray, List.set_cons_zero, List.set_cons_succ, i64_w, i32_w]
                        rfl
                      refine take_ (i := 2) (N := some 38) (v := ?_) (a' := ?_) #[false, true, true, false, false, false, false, false, false, false, false, false] rfl rfl (take_ofW HT_.out HW_.out (by kernel_rfl)) (fun _ _ _ h => h) (Or.inl ⟨by rfl, ?_⟩) hHeld ?_ ?_
                      rotate_left
                      · rintro w' ⟨s0, s1, s2, s3, s4, s5⟩
                        go_simp
                        with_reducible rfl
                      rotate_left
                      · simp only [Act.put, List.setIfInBounds_toArray, List.set_cons_zero, List.set_cons_succ, i64_w, i32_w]
                        rfl
                      refine pure_ (i := 3) (N := some 39) (v := ?_) (a' := ?_) #[false, true, true, true, false, false, false, false, false, false, false, false] rfl rfl (any_of HT_.out (by kernel_rfl)) (fun _ _ _ h => h) (Or.inl ⟨by rfl, ?_⟩) ?_ ?_
                      rotate_left
                      · intro w'
                        go_simp
                        with_reducible rfl
                      rotate_left
                      · simp only [Act.put, List.setIfInBounds_toArray, List.set_cons_zero, List.set_cons_succ, i64_w, i32_w]
                        rfl
                      refine join_ (σ := Nat) 2 #[true, true, true, true, true, true, true, true, true, true, false, false] (fun s_ => [(36, .agg #[.int .i64 4, .int .i64 2]), (6, .pointer (some ⟨s_, 0, none⟩)), (40, .bool (a == 6)), (41, undef), (42, undef), (43, undef), (44, .bool false)]) (fun s_ w' => (w'.cell? ⟨(w.heap.size + 1), 0, none⟩ = some (.string g) ∧ w'.cell? ⟨(w.heap.size + 1), 1, none⟩ = some (.int .i64 a) ∧ w'.cell? ⟨(w.heap.size + 1), 2, none⟩ = some (.int .i64 b) ∧ w'.cell? ⟨(w.heap.size + 1), 3, none⟩ = some (.string (o ++ a0.extract i (i + 1))) ∧ w'.cell? ⟨(w.heap.size + 1), 4, none⟩ = some (.int .i64 x) ∧ w'.cell? ⟨(w.heap.size + 1), 5, none⟩ = some (.int .i64 y)) ∧ (w'.heap[w.heap.size]? = some (.cells #[.string (⟨#[]⟩ : ByteArray), .int .i64 0, .int .i64 0, .string (⟨#[]⟩ : ByteArray), .int .i64 0, .int .i64 0] 47 (0, 0))) ∧ (w'.heap[(w.heap.size + 1)]? = some (.cells #[.string g, .int .i64 a, .int .i64 b, .string (o ++ a0.extract i (i + 1)), .int .i64 x, .int .i64 y] 47 (0, 0))) ∧ (w'.heap[s_]? = some (.cells #[.int .i64 0, .int .i64 0] 53 (0, 0))) ∧ (w.heap.size ≤ s_) ∧ (w.heap.size ≤ s_) ∧ (w.heap.size ≠ s_) ∧ (s_ ≠ w.heap.size) ∧ ((w.heap.size + 1) ≠ s_) ∧ (s_ ≠ (w.heap.size + 1)) ∧ (Below w.heap.size w w')) ?_ ?_
                      rotate_left
                      · intro hCont
                        refine two_ (i := 0) (j := 9) (Ni := some 36) (Nj := some 6) #[true, true, true, true, false, false, false, false, false, false, false, false] #[false, true, true, true, false, false, false, false, false, true, false, false] rfl rfl rfl rfl (two_of HT_.out (by kernel_rfl)) (by decide) (by decide) (fun K hK => ?_) (fun K hK => ?_)
                        · skip
                          refine goes_ Tryd.func58 (by kernel_rfl) rfl #[] (by rfl) rfl rfl (by (try simp only [List.map_toArray, List.map_cons, List.map_nil]); first | done | rfl | (simp only [List.length_drop, List.length_take]; rfl)) ?_
                          with_reducible refine (impl_tennis.calls  4 2 _ T1.out).mono ?_
                          rintro e w229 ⟨rfl, hb⟩
                          refine ⟨_, rfl, ?_⟩
                          have n0_ := Aside0.mk (blk_below (g := w.heap.size) (o := .cells #[.string (⟨#[]⟩ : ByteArray), .int .i64 0, .int .i64 0, .string (⟨#[]⟩ : ByteArray), .int .i64 0, .int .i64 0] 47 (0, 0)) (by (with_reducible repeat (first | refine blk_drewN ?_ _ | refine blk_drew ?_ | refine blk_alloc ?_ _)); exact BK157.out) hb)
                          have n1_ := Aside0.mk (blk_below (g := (w.heap.size + 1)) (o := .cells #[.string g, .int .i64 a, .int .i64 b, .string (o ++ a0.extract i (i + 1)), .int .i64 x, .int .i64 y] 47 (0, 0)) (by (with_reducible repeat (first | refine blk_drewN ?_ _ | refine blk_drew ?_ | refine blk_alloc ?_ _)); exact BK158.out) hb)
                          have n2_ := Aside0.mk (below_step (by repeat (first | (with_reducible first | exact HB.out | apply below_alloc | apply pw_below_drewN | apply below_drew1 | refine below_set ?_ GE157.out | refine below_set ?_ GE158.out) | exact HB.out)) hb)
                          clear BK157
                          clear BK158
                          clear HB
                          have BK157 := n0_
                          have BK158 := n1_
                          have HB := n2_
                          clear n0_ n1_ n2_
                          (try clear hb)
                          (try clear hb2)
                          (try clear hk)
                          (try clear hi)
                          refine hK.out _ _ ⟨(blk_cell BK158.out 0).trans rfl, (blk_cell BK158.out 1).trans rfl, (blk_cell BK158.out 2).trans rfl, (blk_cell BK158.out 3).trans rfl, (blk_cell BK158.out 4).trans rfl, (blk_cell BK158.out 5).trans rfl⟩ (fun hHeld => ?_)
                          clear hK K
                          refine norm_ (a' := ?_) ?_ ?_
                          rotate_left
                          · show Act.put _ (some 36) _ = _
                            simp only [Act.put, List.setIfInBounds_toArray, List.set_cons_zero, List.set_cons_succ, i64_w, i32_w]
                            rfl
                          refine pure_ (i := 4) (N := some 40) (v := ?_) (a' := ?_) #[true, true, true, true, true, false, false, false, false, false, false, false] rfl rfl (any_of HT_.out (by kernel_rfl)) (fun _ _ _ h => h) (Or.inl ⟨by rfl, ?_⟩) ?_ ?_
                          rotate_left
                          · intro w'
                            go_simp
                            with_reducible rfl
                          rotate_left
                          · simp only [Act.put, List.setIfInBounds_toArray, List.set_cons_zero, List.set_cons_succ, i64_w, i32_w]
                            rfl
                          refine pure_ (i := 5) (N := some 41) (v := undef) (a' := ?_) #[true, true, true, true, true, true, false, false, false, false, false, false] rfl rfl (any_of HT_.out (by kernel_rfl)) (fun _ _ _ h => h) (Or.inr ⟨by rfl, rfl⟩) ?_ ?_
                          rotate_left
                          · simp only [Act.put, List.setIfInBounds_toArray, List.set_cons_zero, List.set_cons_succ, i64_w, i32_w]
                            rfl
                          refine pure_ (i := 6) (N := some 42) (v := undef) (a' := ?_) #[true, true, true, true, true, true, true, false, false, false, false, false] rfl rfl (any_of HT_.out (by kernel_rfl)) (fun _ _ _ h => h) (Or.inr ⟨by rfl, rfl⟩) ?_ ?_
                          rotate_left
                          · simp only [Act.put, List.setIfInBounds_toArray, List.set_cons_zero, List.set_cons_succ, i64_w, i32_w]
                            rfl
                          refine pure_ (i := 7) (N := some 43) (v := undef) (a' := ?_) #[true, true, true, true, true, true, true, true, false, false, false, false] rfl rfl (any_of HT_.out (by kernel_rfl)) (fun _ _ _ h => h) (Or.inr ⟨by rfl, rfl⟩) ?_ ?_
                          rotate_left
                          · simp only [Act.put, List.setIfInBounds_toArray, List.set_cons_zero, List.set_cons_succ, i64_w, i32_w]
                            rfl
                          refine pure_ (i := 8) (N := some 44) (v := ?_) (a' := ?_) #[true, true, true, true, true, true, true, true, true, false, false, false] rfl rfl (any_of HT_.out (by kernel_rfl)) (fun _ _ _ h => h) (Or.inl ⟨by rfl, ?_⟩) ?_ ?_
                          rotate_left
                          · intro w'
                            go_simp
                            with_reducible rfl
                          rotate_left
                          · simp only [Act.put, List.setIfInBounds_toArray, List.set_cons_zero, List.set_cons_succ, i64_w, i32_w]
                            rfl
                          refine one_ (i := 9) (N := some 6) #[true, true, true, true, true, true, true, true, true, true, false, false] rfl rfl (one_of HT_.out (by kernel_rfl)) (by decide) (fun K hK => ?_)
                          refine box_step ?hg (N := 6) ?hd (cs := #[.int .i64 0, .int .i64 0]) (t := 53) ?hr ?_; (case hd => rfl); (case hg => rfl); (case hr => first | (go_simp; done) | (go_simp; rfl))
                          intro gb174 hg w230 hbox hb
                          have n0_ := Aside0.mk (blk_below (g := w.heap.size) (o := .cells #[.string (⟨#[]⟩ : ByteArray), .int .i64 0, .int .i64 0, .string (⟨#[]⟩ : ByteArray), .int .i64 0, .int .i64 0] 47 (0, 0)) (by (with_reducible repeat (first | refine blk_drewN ?_ _ | refine blk_drew ?_ | refine blk_alloc ?_ _)); exact BK157.out) hb)
                          have n1_ := Aside0.mk (blk_below (g := (w.heap.size + 1)) (o := .cells #[.string g, .int .i64 a, .int .i64 b, .string (o ++ a0.extract i (i + 1)), .int .i64 x, .int .i64 y] 47 (0, 0)) (by (with_reducible repeat (first | refine blk_drewN ?_ _ | refine blk_drew ?_ | refine blk_alloc ?_ _)); exact BK158.out) hb)
                          have n2_ := Aside0.mk (below_step (by repeat (first | (with_reducible first | exact HB.out | apply below_alloc | apply pw_below_drewN | apply below_drew1 | refine below_set ?_ GE157.out | refine below_set ?_ GE158.out) | exact HB.out)) hb)
                          have n3_ := Aside0.mk (hbox)
                          have n4_ := Aside0.mk ((by rw [hg]; exact (below_size (by repeat (first | (with_reducible first | exact HB.out | apply below_alloc | apply pw_below_drewN | apply below_drew1 | refine below_set ?_ GE157.out | refine below_set ?_ GE158.out) | exact HB.out))) : w.heap.size ≤ gb174))
                          have n5_ := Aside0.mk ((by rw [hg]; exact (below_size (by repeat (first | (with_reducible first | exact HB.out | apply below_alloc | apply pw_below_drewN | apply below_drew1 | refine below_set ?_ GE157.out | refine below_set ?_ GE158.out) | exact HB.out))) : w.heap.size ≤ gb174))
                          have n6_ := Aside0.mk ((by rw [hg]; exact Nat.ne_of_lt (blk_lt (g := w.heap.size) (o := .cells #[.string (⟨#[]⟩ : ByteArray), .int .i64 0, .int .i64 0, .string (⟨#[]⟩ : ByteArray), .int .i64 0, .int .i64 0] 47 (0, 0)) (by (with_reducible repeat (first | refine blk_drewN ?_ _ | refine blk_drew ?_ | refine blk_alloc ?_ _)); exact BK157.out)) : w.heap.size ≠ gb174))
                          have n7_ := Aside0.mk ((by rw [hg]; exact Nat.ne_of_gt (blk_lt (g := w.heap.size) (o := .cells #[.string (⟨#[]⟩ : ByteArray), .int .i64 0, .int .i64 0, .string (⟨#[]⟩ : ByteArray), .int .i64 0, .int .i64 0] 47 (0, 0)) (by (with_reducible repeat (first | refine blk_drewN ?_ _ | refine blk_drew ?_ | refine blk_alloc ?_ _)); exact BK157.out)) : gb174 ≠ w.heap.size))
                          have n8_ := Aside0.mk ((by rw [hg]; exact Nat.ne_of_lt (blk_lt (g := (w.heap.size + 1)) (o := .cells #[.string g, .int .i64 a, .int .i64 b, .string (o ++ a0.extract i (i + 1)), .int .i64 x, .int .i64 y] 47 (0, 0)) (by (with_reducible repeat (first | refine blk_drewN ?_ _ | refine blk_drew ?_ | refine blk_alloc ?_ _)); exact BK158.out)) : (w.heap.size + 1) ≠ gb174))
                          have n9_ := Aside0.mk ((by rw [hg]; exact Nat.ne_of_gt (blk_lt (g := (w.heap.size + 1)) (o := .cells #[.string g, .int .i64 a, .int .i64 b, .string (o ++ a0.extract i (i + 1)), .int .i64 x, .int .i64 y] 47 (0, 0)) (by (with_reducible repeat (first | refine blk_drewN ?_ _ | refine blk_drew ?_ | refine blk_alloc ?_ _)); exact BK158.out)) : gb174 ≠ (w.heap.size + 1)))
                          clear BK157
                          clear BK158
                          clear HB
                          have BK157 := n0_
                          have BK158 := n1_
                          have HB := n2_
                          have BK174 := n3_
                          have GW174 := n4_
                          have GE174 := n5_
                          have NB157_174 := n6_
                          have NB174_157 := n7_
                          have NB158_174 := n8_
                          have NB174_158 := n9_
                          clear n0_ n1_ n2_ n3_ n4_ n5_ n6_ n7_ n8_ n9_
                          clear hb hbox hg
                          refine hK.out _ _ ⟨(blk_cell BK158.out 0).trans rfl, (blk_cell BK158.out 1).trans rfl, (blk_cell BK158.out 2).trans rfl, (blk_cell BK158.out 3).trans rfl, (blk_cell BK158.out 4).trans rfl, (blk_cell BK158.out 5).trans rfl⟩ (fun hHeld => ?_)
                          clear hK K
                          refine norm_ (a' := ?_) ?_ ?_
                          rotate_left
                          · show Act.put _ (some 6) _ = _
                            simp only [Act.put, List.setIfInBounds_toArray, List.set_cons_zero, List.set_cons_succ, i64_w, i32_w]
                            rfl
                          exact norm_ (by first | (simp only [putAll, Act.put, List.setIfInBounds_toArray, List.set_cons_zero, List.set_cons_succ]; done) | (simp only [putAll, Act.put, List.setIfInBounds_toArray, List.set_cons_zero, List.set_cons_succ, c17b0]; done)) (hCont (gb174) _ ⟨hHeld, (by (with_reducible repeat (first | refine blk_drewN ?_ _ | refine blk_drew ?_ | refine blk_alloc ?_ _)); exact BK157.out), (by (with_reducible repeat (first | refine blk_drewN ?_ _ | refine blk_drew ?_ | refine blk_alloc ?_ _)); exact BK158.out), (by (with_reducible repeat (first | refine blk_drewN ?_ _ | refine blk_drew ?_ | refine blk_alloc ?_ _)); exact BK174.out), GW174.out, GE174.out, NB157_174.out, NB174_157.out, NB158_174.out, NB174_158.out, (by repeat (first | (with_reducible first | exact HB.out | apply below_alloc | apply pw_below_drewN | apply below_drew1 | refine below_set ?_ GE157.out | refine below_set ?_ GE158.out | refine below_set ?_ GE174.out) | exact HB.out))⟩)
                        · skip
                          refine box_step ?hg (N := 6) ?hd (cs := #[.int .i64 0, .int .i64 0]) (t := 53) ?hr ?_; (case hd => rfl); (case hg => rfl); (case hr => first | (go_simp; done) | (go_simp; rfl))
                          intro gb174 hg w229 hbox hb
                          have n0_ := Aside0.mk (blk_below (g := w.heap.size) (o := .cells #[.string (⟨#[]⟩ : ByteArray), .int .i64 0, .int .i64 0, .string (⟨#[]⟩ : ByteArray), .int .i64 0, .int .i64 0] 47 (0, 0)) (by (with_reducible repeat (first | refine blk_drewN ?_ _ | refine blk_drew ?_ | refine blk_alloc ?_ _)); exact BK157.out) hb)
                          have n1_ := Aside0.mk (blk_below (g := (w.heap.size + 1)) (o := .cells #[.string g, .int .i64 a, .int .i64 b, .string (o ++ a0.extract i (i + 1)), .int .i64 x, .int .i64 y] 47 (0, 0)) (by (with_reducible repeat (first | refine blk_drewN ?_ _ | refine blk_drew ?_ | refine blk_alloc ?_ _)); exact BK158.out) hb)
                          have n2_ := Aside0.mk (below_step (by repeat (first | (with_reducible first | exact HB.out | apply below_alloc | apply pw_below_drewN | apply below_drew1 | refine below_set ?_ GE157.out | refine below_set ?_ GE158.out) | exact HB.out)) hb)
                          have n3_ := Aside0.mk (hbox)
                          have n4_ := Aside0.mk ((by rw [hg]; exact (below_size (by repeat (first | (with_reducible first | exact HB.out | apply below_alloc | apply pw_below_drewN | apply below_drew1 | refine below_set ?_ GE157.out | refine below_set ?_ GE158.out) | exact HB.out))) : w.heap.size ≤ gb174))
                          have n5_ := Aside0.mk ((by rw [hg]; exact (below_size (by repeat (first | (with_reducible first | exact HB.out | apply below_alloc | apply pw_below_drewN | apply below_drew1 | refine below_set ?_ GE157.out | refine below_set ?_ GE158.out) | exact HB.out))) : w.heap.size ≤ gb174))
                          have n6_ := Aside0.mk ((by rw [hg]; exact Nat.ne_of_lt (blk_lt (g := w.heap.size) (o := .cells #[.string (⟨#[]⟩ : ByteArray), .int .i64 0, .int .i64 0, .string (⟨#[]⟩ : ByteArray), .int .i64 0, .int .i64 0] 47 (0, 0)) (by (with_reducible repeat (first | refine blk_drewN ?_ _ | refine blk_drew ?_ | refine blk_alloc ?_ _)); exact BK157.out)) : w.heap.size ≠ gb174))
                          have n7_ := Aside0.mk ((by rw [hg]; exact Nat.ne_of_gt (blk_lt (g := w.heap.size) (o := .cells #[.string (⟨#[]⟩ : ByteArray), .int .i64 0, .int .i64 0, .string (⟨#[]⟩ : ByteArray), .int .i64 0, .int .i64 0] 47 (0, 0)) (by (with_reducible repeat (first | refine blk_drewN ?_ _ | refine blk_drew ?_ | refine blk_alloc ?_ _)); exact BK157.out)) : gb174 ≠ w.heap.size))
                          have n8_ := Aside0.mk ((by rw [hg]; exact Nat.ne_of_lt (blk_lt (g := (w.heap.size + 1)) (o := .cells #[.string g, .int .i64 a, .int .i64 b, .string (o ++ a0.extract i (i + 1)), .int .i64 x, .int .i64 y] 47 (0, 0)) (by (with_reducible repeat (first | refine blk_drewN ?_ _ | refine blk_drew ?_ | refine blk_alloc ?_ _)); exact BK158.out)) : (w.heap.size + 1) ≠ gb174))
                          have n9_ := Aside0.mk ((by rw [hg]; exact Nat.ne_of_gt (blk_lt (g := (w.heap.size + 1)) (o := .cells #[.string g, .int .i64 a, .int .i64 b, .string (o ++ a0.extract i (i + 1)), .int .i64 x, .int .i64 y] 47 (0, 0)) (by (with_reducible repeat (first | refine blk_drewN ?_ _ | refine blk_drew ?_ | refine blk_alloc ?_ _)); exact BK158.out)) : gb174 ≠ (w.heap.size + 1)))
                          clear BK157
                          clear BK158
                          clear HB
                          have BK157 := n0_
                          have BK158 := n1_
                          have HB := n2_
                          have BK174 := n3_
                          have GW174 := n4_
                          have GE174 := n5_
                          have NB157_174 := n6_
                          have NB174_157 := n7_
                          have NB158_174 := n8_
                          have NB174_158 := n9_
                          clear n0_ n1_ n2_ n3_ n4_ n5_ n6_ n7_ n8_ n9_
                          clear hb hbox hg
                          refine hK.out _ _ ⟨(blk_cell BK158.out 0).trans rfl, (blk_cell BK158.out 1).trans rfl, (blk_cell BK158.out 2).trans rfl, (blk_cell BK158.out 3).trans rfl, (blk_cell BK158.out 4).trans rfl, (blk_cell BK158.out 5).trans rfl⟩ (fun hHeld => ?_)
                          clear hK K
                          refine norm_ (a' := ?_) ?_ ?_
                          rotate_left
                          · show Act.put _ (some 6) _ = _
                            simp only [Act.put, List.setIfInBounds_toArray, List.set_cons_zero, List.set_cons_succ, i64_w, i32_w]
                            rfl
                          refine one_ (i := 0) (N := some 36) #[true, true, true, true, false, false, false, false, false, true, false, false] rfl rfl (one_of HT_.out (by kernel_rfl)) (by decide) (fun K hK => ?_)
                          refine goes_ Tryd.func58 (by kernel_rfl) rfl #[] (by rfl) rfl rfl (by (try simp only [List.map_toArray, List.map_cons, List.map_nil]); first | done | rfl | (simp only [List.length_drop, List.length_take]; rfl)) ?_
                          with_reducible refine (impl_tennis.calls  4 2 _ T1.out).mono ?_
                          rintro e w230 ⟨rfl, hb⟩
                          refine ⟨_, rfl, ?_⟩
                          have n0_ := Aside0.mk (blk_below (g := w.heap.size) (o := .cells #[.string (⟨#[]⟩ : ByteArray), .int .i64 0, .int .i64 0, .string (⟨#[]⟩ : ByteArray), .int .i64 0, .int .i64 0] 47 (0, 0)) (by (with_reducible repeat (first | refine blk_drewN ?_ _ | refine blk_drew ?_ | refine blk_alloc ?_ _)); exact BK157.out) hb)
                          have n1_ := Aside0.mk (blk_below (g := (w.heap.size + 1)) (o := .cells #[.string g, .int .i64 a, .int .i64 b, .string (o ++ a0.extract i (i + 1)), .int .i64 x, .int .i64 y] 47 (0, 0)) (by (with_reducible repeat (first | refine blk_drewN ?_ _ | refine blk_drew ?_ | refine blk_alloc ?_ _)); exact BK158.out) hb)
                          have n2_ := Aside0.mk (blk_below (g := gb174) (o := .cells #[.int .i64 0, .int .i64 0] 53 (0, 0)) (by (with_reducible repeat (first | refine blk_drewN ?_ _ | refine blk_drew ?_ | refine blk_alloc ?_ _)); exact BK174.out) hb)
                          have n3_ := Aside0.mk (below_step (by repeat (first | (with_reducible first | exact HB.out | apply below_alloc | apply pw_below_drewN | apply below_drew1 | refine below_set ?_ GE157.out | refine below_set ?_ GE158.out | refine below_set ?_ GE174.out) | exact HB.out)) hb)
                          clear BK157
                          clear BK158
                          clear BK174
                          clear HB
                          have BK157 := n0_
                          have BK158 := n1_
                          have BK174 := n2_
                          have HB := n3_
                          clear n0_ n1_ n2_ n3_
                          (try clear hb)
                          (try clear hb2)
                          (try clear hk)
                          (try clear hi)
                          refine hK.out _ _ ⟨(blk_cell BK158.out 0).trans rfl, (blk_cell BK158.out 1).trans rfl, (blk_cell BK158.out 2).trans rfl, (blk_cell BK158.out 3).trans rfl, (blk_cell BK158.out 4).trans rfl, (blk_cell BK158.out 5).trans rfl⟩ (fun hHeld => ?_)
                          clear hK K
                          refine norm_ (a' := ?_) ?_ ?_
                          rotate_left
                          · show Act.put _ (some 36) _ = _
                            simp only [Act.put, List.setIfInBounds_toArray, List.set_cons_zero, List.set_cons_succ, i64_w, i32_w]
                            rfl
                          refine pure_ (i := 4) (N := some 40) (v := ?_) (a' := ?_) #[true, true, true, true, true, false, false, false, false, true, false, false] rfl rfl (any_of HT_.out (by kernel_rfl)) (fun _ _ _ h => h) (Or.inl ⟨by rfl, ?_⟩) ?_ ?_
                          rotate_left
                          · intro w'
                            go_simp
                            with_reducible rfl
                          rotate_left
                          · simp only [Act.put, List.setIfInBounds_toArray, List.set_cons_zero, List.set_cons_succ, i64_w, i32_w]
                            rfl
                          refine pure_ (i := 5) (N := some 41) (v := undef) (a' := ?_) #[true, true, true, true, true, true, false, false, false, true, false, false] rfl rfl (any_of HT_.out (by kernel_rfl)) (fun _ _ _ h => h) (Or.inr ⟨by rfl, rfl⟩) ?_ ?_
                          rotate_left
                          · simp only [Act.put, List.setIfInBounds_toArray, List.set_cons_zero, List.set_cons_succ, i64_w, i32_w]
                            rfl
                          refine pure_ (i := 6) (N := some 42) (v := undef) (a' := ?_) #[true, true, true, true, true, true, true, false, false, true, false, false] rfl rfl (any_of HT_.out (by kernel_rfl)) (fun _ _ _ h => h) (Or.inr ⟨by rfl, rfl⟩) ?_ ?_
                          rotate_left
                          · simp only [Act.put, List.setIfInBounds_toArray, List.set_cons_zero, List.set_cons_succ, i64_w, i32_w]
                            rfl
                          refine pure_ (i := 7) (N := some 43) (v := undef) (a' := ?_) #[true, true, true, true, true, true, true, true, false, true, false, false] rfl rfl (any_of HT_.out (by kernel_rfl)) (fun _ _ _ h => h) (Or.inr ⟨by rfl, rfl⟩) ?_ ?_
                          rotate_left
                          · simp only [Act.put, List.setIfInBounds_toArray, List.set_cons_zero, List.set_cons_succ, i64_w, i32_w]
                            rfl
                          refine pure_ (i := 8) (N := some 44) (v := ?_) (a' := ?_) #[true, true, true, true, true, true, true, true, true, true, false, false] rfl rfl (any_of HT_.out (by kernel_rfl)) (fun _ _ _ h => h) (Or.inl ⟨by rfl, ?_⟩) ?_ ?_
                          rotate_left
                          · intro w'
                            go_simp
                            with_reducible rfl
                          rotate_left
                          · simp only [Act.put, List.setIfInBounds_toArray, List.set_cons_zero, List.set_cons_succ, i64_w, i32_w]
                            rfl
                          exact norm_ (by first | (simp only [putAll, Act.put, List.setIfInBounds_toArray, List.set_cons_zero, List.set_cons_succ]; done) | (simp only [putAll, Act.put, List.setIfInBounds_toArray, List.set_cons_zero, List.set_cons_succ, c17b0]; done)) (hCont (gb174) _ ⟨hHeld, (by (with_reducible repeat (first | refine blk_drewN ?_ _ | refine blk_drew ?_ | refine blk_alloc ?_ _)); exact BK157.out), (by (with_reducible repeat (first | refine blk_drewN ?_ _ | refine blk_drew ?_ | refine blk_alloc ?_ _)); exact BK158.out), (by (with_reducible repeat (first | refine blk_drewN ?_ _ | refine blk_drew ?_ | refine blk_alloc ?_ _)); exact BK174.out), GW174.out, GE174.out, NB157_174.out, NB174_157.out, NB158_174.out, NB174_158.out, (by repeat (first | (with_reducible first | exact HB.out | apply below_alloc | apply pw_below_drewN | apply below_drew1 | refine below_set ?_ GE157.out | refine below_set ?_ GE158.out | refine below_set ?_ GE174.out) | exact HB.out))⟩)
                      rintro gb174 w231 ⟨hS_, h0_, h1_, h2_, h3_, h4_, h5_, h6_, h7_, h8_, h9_⟩
                      have n0_ : Aside0 (w231.heap[w.heap.size]? = some (.cells #[.string (⟨#[]⟩ : ByteArray), .int .i64 0, .int .i64 0, .string (⟨#[]⟩ : ByteArray), .int .i64 0, .int .i64 0] 47 (0, 0))) := ⟨h0_⟩
                      have n1_ : Aside0 (w231.heap[(w.heap.size + 1)]? = some (.cells #[.string g, .int .i64 a, .int .i64 b, .string (o ++ a0.extract i (i + 1)), .int .i64 x, .int .i64 y] 47 (0, 0))) := ⟨h1_⟩
                      have n2_ : Aside0 (w231.heap[gb174]? = some (.cells #[.int .i64 0, .int .i64 0] 53 (0, 0))) := ⟨h2_⟩
                      have n3_ : Aside0 (w.heap.size ≤ gb174) := ⟨h3_⟩
                      have n4_ : Aside0 (w.heap.size ≤ gb174) := ⟨h4_⟩
                      have n5_ : Aside0 (w.heap.size ≠ gb174) := ⟨h5_⟩
                      have n6_ : Aside0 (gb174 ≠ w.heap.size) := ⟨h6_⟩
                      have n7_ : Aside0 ((w.heap.size + 1) ≠ gb174) := ⟨h7_⟩
                      have n8_ : Aside0 (gb174 ≠ (w.heap.size + 1)) := ⟨h8_⟩
                      have n9_ : Aside0 (Below w.heap.size w w231) := ⟨h9_⟩
                      clear BK157
                      clear BK158
                      clear HB
                      clear h0_ h1_ h2_ h3_ h4_ h5_ h6_ h7_ h8_ h9_
                      have BK157 := n0_
                      have BK158 := n1_
                      have BK174 := n2_
                      have GW174 := n3_
                      have GE174 := n4_
                      have NB157_174 := n5_
                      have NB174_157 := n6_
                      have NB158_174 := n7_
                      have NB174_158 := n8_
                      have HB := n9_
                      clear n0_ n1_ n2_ n3_ n4_ n5_ n6_ n7_ n8_ n9_
                      have hHeld : w231.cell? ⟨(w.heap.size + 1), 0, none⟩ = some (.string g) ∧ w231.cell? ⟨(w.heap.size + 1), 1, none⟩ = some (.int .i64 a) ∧ w231.cell? ⟨(w.heap.size + 1), 2, none⟩ = some (.int .i64 b) ∧ w231.cell? ⟨(w.heap.size + 1), 3, none⟩ = some (.string (o ++ a0.extract i (i + 1))) ∧ w231.cell? ⟨(w.heap.size + 1), 4, none⟩ = some (.int .i64 x) ∧ w231.cell? ⟨(w.heap.size + 1), 5, none⟩ = some (.int .i64 y) := hS_
                      refine norm_ (a' := ?_) ?_ ?_
                      rotate_left
                      · simp only [putAll, Act.put, List.setIfInBounds_toArray, List.set_cons_zero, List.set_cons_succ]
                        rfl
                      refine one_ (i := 10) (N := none) #[true, true, true, true, true, true, true, true, true, true, true, false] rfl rfl (one_of HT_.out (by kernel_rfl)) (by decide) (fun K hK => ?_)
                      have hs232 : w231.cell? ⟨gb174, 0, none⟩ = some (.int .i64 0) := (blk_cell BK174.out 0).trans rfl
                      have hfs232 := blk_frozen BK174.out 0
                      have hns232_0 := NB157_174.out
                      have hns232_1 := NB158_174.out
                      have hms232_0 := NB174_157.out
                      have hms232_1 := NB174_158.out
                      have hs233 : w231.cell? ⟨gb174, 1, none⟩ = some (.int .i64 0) := (blk_cell BK174.out 1).trans rfl
                      have hfs233 := blk_frozen BK174.out 1
                      have hns233_0 := NB157_174.out
                      have hns233_1 := NB158_174.out
                      have hms233_0 := NB174_157.out
                      have hms233_1 := NB174_158.out
                      refine skip_ (w1 := ?_) (by rfl) rfl ?_ ?_
                      rotate_left
                      · go_simp
                        rfl
                      refine hK.out _ _ ⟨((cell_far (p := ⟨gb174, _, none⟩) NB158_174.out _).trans (((cell_far (p := ⟨gb174, _, none⟩) NB158_174.out _).trans (hHeld.1)))), ((cell_far (p := ⟨gb174, _, none⟩) NB158_174.out _).trans (((cell_far (p := ⟨gb174, _, none⟩) NB158_174.out _).trans (hHeld.2.1)))), ((cell_far (p := ⟨gb174, _, none⟩) NB158_174.out _).trans (((cell_far (p := ⟨gb174, _, none⟩) NB158_174.out _).trans (hHeld.2.2.1)))), ((cell_far (p := ⟨gb174, _, none⟩) NB158_174.out _).trans (((cell_far (p := ⟨gb174, _, none⟩) NB158_174.out _).trans (hHeld.2.2.2.1)))), ((cell_far (p := ⟨gb174, _, none⟩) NB158_174.out _).trans (((cell_far (p := ⟨gb174, _, none⟩) NB158_174.out _).trans (hHeld.2.2.2.2.1)))), ((cell_far (p := ⟨gb174, _, none⟩) NB158_174.out _).trans (((cell_far (p := ⟨gb174, _, none⟩) NB158_174.out _).trans (hHeld.2.2.2.2.2))))⟩ (fun hHeld => ?_)
                      clear hK K
                      refine pure_ (i := 11) (N := some 7) (v := ?_) (a' := ?_) #[true, true, true, true, true, true, true, true, true, true, true, true] rfl rfl (any_of HT_.out (by kernel_rfl)) (fun _ _ _ h => h) (Or.inl ⟨by rfl, ?_⟩) ?_ ?_
                      rotate_left
                      · intro w'
                        go_simp
                        with_reducible rfl
                      rotate_left
                      · simp only [Act.put, List.setIfInBounds_toArray, List.set_cons_zero, List.set_cons_succ, i64_w, i32_w]
                        rfl
                      refine done_ (done_of HT_.out (by kernel_rfl)) ?_
                      (try go_wp2)
                      go_meet
                      case rel => exact ⟨gb174, false, rfl, (by first | rfl | (simp; done)), TE, GE174.out, NB157_174.out, NB158_174.out, ⟨blk_put (cs := #[.int .i64 4, .int .i64 0]) (blk_put (cs := #[.int .i64 0, .int .i64 0]) BK174.out 0 _ rfl) 1 _ rfl⟩, ⟨impl_readSet.St.far (impl_readSet.St.far ⟨BK157.out, BK158.out, HB.out, Nat.le_refl _, Nat.le_succ _, by omega⟩ NB157_174.out NB158_174.out GE174.out _ _) NB157_174.out NB158_174.out GE174.out _ _⟩⟩
                  case rest =>
                    clear hc2_0 hz2_0 hc2_1 hz2_1 hc2_2 hz2_2 hc2_3 hz2_3 hc2_4 hz2_4 hc2_5 hz2_5
                    obtain ⟨g6, tie, rfl, rfl, htie, hg6, hn1, hn2, BK6, hs⟩ := hcut
                    have hm1 := Ne.symm hn1
                    have hm2 := Ne.symm hn2
                    have hcs_0 : wc.cell? ⟨g6, 0, none⟩ = some (.int .i64 4) := (blk_cell BK6.out 0).trans rfl
                    have hcs_1 : wc.cell? ⟨g6, 1, none⟩ = some (.int .i64 2) := (blk_cell BK6.out 1).trans rfl
                    have hzs_0 := blk_frozen BK6.out 0
                    have hzs_1 := blk_frozen BK6.out 1
                    have hc3_0 : wc.cell? ⟨w.heap.size + 1, 0, none⟩ = some (.string g) := (blk_cell hs.out.b2 0).trans rfl; have hz3_0 := blk_frozen hs.out.b2 0; have hc3_1 : wc.cell? ⟨w.heap.size + 1, 1, none⟩ = some (.int .i64 a) := (blk_cell hs.out.b2 1).trans rfl; have hz3_1 := blk_frozen hs.out.b2 1; have hc3_2 : wc.cell? ⟨w.heap.size + 1, 2, none⟩ = some (.int .i64 b) := (blk_cell hs.out.b2 2).trans rfl; have hz3_2 := blk_frozen hs.out.b2 2; have hc3_3 : wc.cell? ⟨w.heap.size + 1, 3, none⟩ = some (.string (o ++ a0.extract i (i + 1))) := (blk_cell hs.out.b2 3).trans rfl; have hz3_3 := blk_frozen hs.out.b2 3; have hc3_4 : wc.cell? ⟨w.heap.size + 1, 4, none⟩ = some (.int .i64 x) := (blk_cell hs.out.b2 4).trans rfl; have hz3_4 := blk_frozen hs.out.b2 4; have hc3_5 : wc.cell? ⟨w.heap.size + 1, 5, none⟩ = some (.int .i64 y) := (blk_cell hs.out.b2 5).trans rfl; have hz3_5 := blk_frozen hs.out.b2 5
                    by_cases h6 : a = 6 ∧ b = 6
                    · obtain rfl : tie = true := htie.out.trans (decide_eq_true h6)
                      have A2' := A2.out
                      rw [if_pos h6] at A2'
                      have A3 := Aside0.mk (impl_follow.of_g A2')
                      clear A2' A2
                      cases q3 with
                      | none =>
                        have H'' := H'.out
                        simp only [impl_readSet.next] at H''
                        have H' := Aside0.mk H''
                        clear H''
                        have A3 : Aside0 (impl_follow.f 7 2 (o ++ a0.extract i (i + 1)) = some (q1, q2, ⟨#[45]⟩, q4)) := A3
                        clear h6
                        go_wp2_with (first | ((with_reducible refine gate_callee (f := 64) rfl ?_); refine goesL_ (some 46) rfl rfl Tryd.func64 (by kernel_rfl) rfl #[] rfl (by (try simp only [List.map_toArray, List.map_cons, List.map_nil]); first | done | rfl) ?_; (with_reducible refine (impl_tie.calls 7 2 _ T2.out).mono ?_); rintro e w46 ⟨rfl, hb⟩; refine ⟨_, rfl, ?_⟩; have hs46 := Aside0.mk (hs.out.below hb); have BK46 := Aside0.mk (blk_below BK6.out hb); clear hb; have hct_0 : w46.cell? ⟨g6, 0, none⟩ = some (.int .i64 4) := (blk_cell BK46.out 0).trans rfl; have hct_1 : w46.cell? ⟨g6, 1, none⟩ = some (.int .i64 2) := (blk_cell BK46.out 1).trans rfl; have hzt_0 := blk_frozen BK46.out 0; have hzt_1 := blk_frozen BK46.out 1; have hc5_0 : w46.cell? ⟨w.heap.size + 1, 0, none⟩ = some (.string g) := (blk_cell hs46.out.b2 0).trans rfl; have hz5_0 := blk_frozen hs46.out.b2 0; have hc5_1 : w46.cell? ⟨w.heap.size + 1, 1, none⟩ = some (.int .i64 a) := (blk_cell hs46.out.b2 1).trans rfl; have hz5_1 := blk_frozen hs46.out.b2 1; have hc5_2 : w46.cell? ⟨w.heap.size + 1, 2, none⟩ = some (.int .i64 b) := (blk_cell hs46.out.b2 2).trans rfl; have hz5_2 := blk_frozen hs46.out.b2 2; have hc5_3 : w46.cell? ⟨w.heap.size + 1, 3, none⟩ = some (.string (o ++ a0.extract i (i + 1))) := (blk_cell hs46.out.b2 3).trans rfl; have hz5_3 := blk_frozen hs46.out.b2 3; have hc5_4 : w46.cell? ⟨w.heap.size + 1, 4, none⟩ = some (.int .i64 x) := (blk_cell hs46.out.b2 4).trans rfl; have hz5_4 := blk_frozen hs46.out.b2 4; have hc5_5 : w46.cell? ⟨w.heap.size + 1, 5, none⟩ = some (.int .i64 y) := (blk_cell hs46.out.b2 5).trans rfl; have hz5_5 := blk_frozen hs46.out.b2 5) | ((with_reducible refine gate_callee (f := 57) rfl ?_); refine goesL_ (some 50) rfl rfl Tryd.func57 (by kernel_rfl) rfl #[.agg #[.int .i64 7, .int .i64 2], .string (o ++ a0.extract i (i + 1))] rfl (by (try simp only [List.map_toArray, List.map_cons, List.map_nil]); first | done | rfl) ?_; (with_reducible refine (impl_follow.calls 7 2 (o ++ a0.extract i (i + 1)) q1 q2 ⟨#[45]⟩ q4 _ A3.out).mono ?_); rintro e w50 ⟨rfl, hb⟩; refine ⟨_, rfl, ?_⟩; have hs50 : Aside0 (impl_readSet.St w w50 w.heap.size (w.heap.size + 1) g a b (o ++ a0.extract i (i + 1)) x y) := ⟨impl_readSet.St.below (by repeat (first | with_reducible exact hs46.out | refine impl_readSet.St.far ?_ hn1 hn2 hg6 _ _)) hb⟩; clear hb; have hc6_0 : w50.cell? ⟨w.heap.size + 1, 0, none⟩ = some (.string g) := (blk_cell hs50.out.b2 0).trans rfl; have hz6_0 := blk_frozen hs50.out.b2 0; have hc6_1 : w50.cell? ⟨w.heap.size + 1, 1, none⟩ = some (.int .i64 a) := (blk_cell hs50.out.b2 1).trans rfl; have hz6_1 := blk_frozen hs50.out.b2 1; have hc6_2 : w50.cell? ⟨w.heap.size + 1, 2, none⟩ = some (.int .i64 b) := (blk_cell hs50.out.b2 2).trans rfl; have hz6_2 := blk_frozen hs50.out.b2 2; have hc6_3 : w50.cell? ⟨w.heap.size + 1, 3, none⟩ = some (.string (o ++ a0.extract i (i + 1))) := (blk_cell hs50.out.b2 3).trans rfl; have hz6_3 := blk_frozen hs50.out.b2 3; have hc6_4 : w50.cell? ⟨w.heap.size + 1, 4, none⟩ = some (.int .i64 x) := (blk_cell hs50.out.b2 4).trans rfl; have hz6_4 := blk_frozen hs50.out.b2 4; have hc6_5 : w50.cell? ⟨w.heap.size + 1, 5, none⟩ = some (.int .i64 y) := (blk_cell hs50.out.b2 5).trans rfl; have hz6_5 := blk_frozen hs50.out.b2 5))
                        go_roundg kq
                        case measure => omega
                        case rel => exact ⟨i + 1, _, _, _, _, _, _, by go_num, by omega, ⟨by repeat (first | with_reducible exact hs50.out | apply impl_readSet.St.set0 | apply impl_readSet.St.set1 | apply impl_readSet.St.set2 | apply impl_readSet.St.set3 | apply impl_readSet.St.set4 | apply impl_readSet.St.set5)⟩, H'⟩
                      | some c =>
                        have H'' := H'.out
                        have HG' := HG.out
                        have hpar : (g.size : Int) % 2 = 0 ∨ (g.size : Int) % 2 = 1 := by omega
                        cases c with
                        | true =>
                          simp only [impl_readSet.next] at H''
                          rw [if_pos h6] at H''
                          have A3 : Aside0 (impl_follow.f 7 2 (o ++ a0.extract i (i + 1)) = some (q1, q2, ⟨#[97]⟩, q4)) := A3
                          clear h6
                          rcases hpar with hp | hp
                          · skip
                            have H' := Aside0.mk H''
                            clear H''
                            go_wp2_with (first | ((with_reducible refine gate_callee (f := 64) rfl ?_); refine goesL_ (some 46) rfl rfl Tryd.func64 (by kernel_rfl) rfl #[] rfl (by (try simp only [List.map_toArray, List.map_cons, List.map_nil]); first | done | rfl) ?_; (with_reducible refine (impl_tie.calls 7 2 _ T2.out).mono ?_); rintro e w46 ⟨rfl, hb⟩; refine ⟨_, rfl, ?_⟩; have hs46 := Aside0.mk (hs.out.below hb); have BK46 := Aside0.mk (blk_below BK6.out hb); clear hb; have hct_0 : w46.cell? ⟨g6, 0, none⟩ = some (.int .i64 4) := (blk_cell BK46.out 0).trans rfl; have hct_1 : w46.cell? ⟨g6, 1, none⟩ = some (.int .i64 2) := (blk_cell BK46.out 1).trans rfl; have hzt_0 := blk_frozen BK46.out 0; have hzt_1 := blk_frozen BK46.out 1; have hc5_0 : w46.cell? ⟨w.heap.size + 1, 0, none⟩ = some (.string g) := (blk_cell hs46.out.b2 0).trans rfl; have hz5_0 := blk_frozen hs46.out.b2 0; have hc5_1 : w46.cell? ⟨w.heap.size + 1, 1, none⟩ = some (.int .i64 a) := (blk_cell hs46.out.b2 1).trans rfl; have hz5_1 := blk_frozen hs46.out.b2 1; have hc5_2 : w46.cell? ⟨w.heap.size + 1, 2, none⟩ = some (.int .i64 b) := (blk_cell hs46.out.b2 2).trans rfl; have hz5_2 := blk_frozen hs46.out.b2 2; have hc5_3 : w46.cell? ⟨w.heap.size + 1, 3, none⟩ = some (.string (o ++ a0.extract i (i + 1))) := (blk_cell hs46.out.b2 3).trans rfl; have hz5_3 := blk_frozen hs46.out.b2 3; have hc5_4 : w46.cell? ⟨w.heap.size + 1, 4, none⟩ = some (.int .i64 x) := (blk_cell hs46.out.b2 4).trans rfl; have hz5_4 := blk_frozen hs46.out.b2 4; have hc5_5 : w46.cell? ⟨w.heap.size + 1, 5, none⟩ = some (.int .i64 y) := (blk_cell hs46.out.b2 5).trans rfl; have hz5_5 := blk_frozen hs46.out.b2 5) | ((with_reducible refine gate_callee (f := 57) rfl ?_); refine goesL_ (some 50) rfl rfl Tryd.func57 (by kernel_rfl) rfl #[.agg #[.int .i64 7, .int .i64 2], .string (o ++ a0.extract i (i + 1))] rfl (by (try simp only [List.map_toArray, List.map_cons, List.map_nil]); first | done | rfl) ?_; (with_reducible refine (impl_follow.calls 7 2 (o ++ a0.extract i (i + 1)) q1 q2 ⟨#[97]⟩ q4 _ A3.out).mono ?_); rintro e w50 ⟨rfl, hb⟩; refine ⟨_, rfl, ?_⟩; have hs50 : Aside0 (impl_readSet.St w w50 w.heap.size (w.heap.size + 1) g a b (o ++ a0.extract i (i + 1)) x y) := ⟨impl_readSet.St.below (by repeat (first | with_reducible exact hs46.out | refine impl_readSet.St.far ?_ hn1 hn2 hg6 _ _)) hb⟩; clear hb; have hc6_0 : w50.cell? ⟨w.heap.size + 1, 0, none⟩ = some (.string g) := (blk_cell hs50.out.b2 0).trans rfl; have hz6_0 := blk_frozen hs50.out.b2 0; have hc6_1 : w50.cell? ⟨w.heap.size + 1, 1, none⟩ = some (.int .i64 a) := (blk_cell hs50.out.b2 1).trans rfl; have hz6_1 := blk_frozen hs50.out.b2 1; have hc6_2 : w50.cell? ⟨w.heap.size + 1, 2, none⟩ = some (.int .i64 b) := (blk_cell hs50.out.b2 2).trans rfl; have hz6_2 := blk_frozen hs50.out.b2 2; have hc6_3 : w50.cell? ⟨w.heap.size + 1, 3, none⟩ = some (.string (o ++ a0.extract i (i + 1))) := (blk_cell hs50.out.b2 3).trans rfl; have hz6_3 := blk_frozen hs50.out.b2 3; have hc6_4 : w50.cell? ⟨w.heap.size + 1, 4, none⟩ = some (.int .i64 x) := (blk_cell hs50.out.b2 4).trans rfl; have hz6_4 := blk_frozen hs50.out.b2 4; have hc6_5 : w50.cell? ⟨w.heap.size + 1, 5, none⟩ = some (.int .i64 y) := (blk_cell hs50.out.b2 5).trans rfl; have hz6_5 := blk_frozen hs50.out.b2 5))
                            go_roundg kq
                            case measure => omega
                            case rel => exact ⟨i + 1, _, _, _, _, _, _, by go_num, by omega, ⟨by repeat (first | with_reducible exact hs50.out | apply impl_readSet.St.set0 | apply impl_readSet.St.set1 | apply impl_readSet.St.set2 | apply impl_readSet.St.set3 | apply impl_readSet.St.set4 | apply impl_readSet.St.set5)⟩, H'⟩
                          · skip
                            have H' := Aside0.mk H''
                            clear H''
                            go_wp2_with (first | ((with_reducible refine gate_callee (f := 64) rfl ?_); refine goesL_ (some 46) rfl rfl Tryd.func64 (by kernel_rfl) rfl #[] rfl (by (try simp only [List.map_toArray, List.map_cons, List.map_nil]); first | done | rfl) ?_; (with_reducible refine (impl_tie.calls 7 2 _ T2.out).mono ?_); rintro e w46 ⟨rfl, hb⟩; refine ⟨_, rfl, ?_⟩; have hs46 := Aside0.mk (hs.out.below hb); have BK46 := Aside0.mk (blk_below BK6.out hb); clear hb; have hct_0 : w46.cell? ⟨g6, 0, none⟩ = some (.int .i64 4) := (blk_cell BK46.out 0).trans rfl; have hct_1 : w46.cell? ⟨g6, 1, none⟩ = some (.int .i64 2) := (blk_cell BK46.out 1).trans rfl; have hzt_0 := blk_frozen BK46.out 0; have hzt_1 := blk_frozen BK46.out 1; have hc5_0 : w46.cell? ⟨w.heap.size + 1, 0, none⟩ = some (.string g) := (blk_cell hs46.out.b2 0).trans rfl; have hz5_0 := blk_frozen hs46.out.b2 0; have hc5_1 : w46.cell? ⟨w.heap.size + 1, 1, none⟩ = some (.int .i64 a) := (blk_cell hs46.out.b2 1).trans rfl; have hz5_1 := blk_frozen hs46.out.b2 1; have hc5_2 : w46.cell? ⟨w.heap.size + 1, 2, none⟩ = some (.int .i64 b) := (blk_cell hs46.out.b2 2).trans rfl; have hz5_2 := blk_frozen hs46.out.b2 2; have hc5_3 : w46.cell? ⟨w.heap.size + 1, 3, none⟩ = some (.string (o ++ a0.extract i (i + 1))) := (blk_cell hs46.out.b2 3).trans rfl; have hz5_3 := blk_frozen hs46.out.b2 3; have hc5_4 : w46.cell? ⟨w.heap.size + 1, 4, none⟩ = some (.int .i64 x) := (blk_cell hs46.out.b2 4).trans rfl; have hz5_4 := blk_frozen hs46.out.b2 4; have hc5_5 : w46.cell? ⟨w.heap.size + 1, 5, none⟩ = some (.int .i64 y) := (blk_cell hs46.out.b2 5).trans rfl; have hz5_5 := blk_frozen hs46.out.b2 5) | ((with_reducible refine gate_callee (f := 57) rfl ?_); refine goesL_ (some 50) rfl rfl Tryd.func57 (by kernel_rfl) rfl #[.agg #[.int .i64 7, .int .i64 2], .string (o ++ a0.extract i (i + 1))] rfl (by (try simp only [List.map_toArray, List.map_cons, List.map_nil]); first | done | rfl) ?_; (with_reducible refine (impl_follow.calls 7 2 (o ++ a0.extract i (i + 1)) q1 q2 ⟨#[97]⟩ q4 _ A3.out).mono ?_); rintro e w50 ⟨rfl, hb⟩; refine ⟨_, rfl, ?_⟩; have hs50 : Aside0 (impl_readSet.St w w50 w.heap.size (w.heap.size + 1) g a b (o ++ a0.extract i (i + 1)) x y) := ⟨impl_readSet.St.below (by repeat (first | with_reducible exact hs46.out | refine impl_readSet.St.far ?_ hn1 hn2 hg6 _ _)) hb⟩; clear hb; have hc6_0 : w50.cell? ⟨w.heap.size + 1, 0, none⟩ = some (.string g) := (blk_cell hs50.out.b2 0).trans rfl; have hz6_0 := blk_frozen hs50.out.b2 0; have hc6_1 : w50.cell? ⟨w.heap.size + 1, 1, none⟩ = some (.int .i64 a) := (blk_cell hs50.out.b2 1).trans rfl; have hz6_1 := blk_frozen hs50.out.b2 1; have hc6_2 : w50.cell? ⟨w.heap.size + 1, 2, none⟩ = some (.int .i64 b) := (blk_cell hs50.out.b2 2).trans rfl; have hz6_2 := blk_frozen hs50.out.b2 2; have hc6_3 : w50.cell? ⟨w.heap.size + 1, 3, none⟩ = some (.string (o ++ a0.extract i (i + 1))) := (blk_cell hs50.out.b2 3).trans rfl; have hz6_3 := blk_frozen hs50.out.b2 3; have hc6_4 : w50.cell? ⟨w.heap.size + 1, 4, none⟩ = some (.int .i64 x) := (blk_cell hs50.out.b2 4).trans rfl; have hz6_4 := blk_frozen hs50.out.b2 4; have hc6_5 : w50.cell? ⟨w.heap.size + 1, 5, none⟩ = some (.int .i64 y) := (blk_cell hs50.out.b2 5).trans rfl; have hz6_5 := blk_frozen hs50.out.b2 5))
                            go_roundg kq
                            case measure => omega
                            case rel => exact ⟨i + 1, _, _, _, _, _, _, by go_num, by omega, ⟨by repeat (first | with_reducible exact hs50.out | apply impl_readSet.St.set0 | apply impl_readSet.St.set1 | apply impl_readSet.St.set2 | apply impl_readSet.St.set3 | apply impl_readSet.St.set4 | apply impl_readSet.St.set5)⟩, H'⟩
                        | false =>
                          simp only [impl_readSet.next] at H''
                          rw [if_pos h6] at H''
                          have A3 : Aside0 (impl_follow.f 7 2 (o ++ a0.extract i (i + 1)) = some (q1, q2, ⟨#[98]⟩, q4)) := A3
                          clear h6
                          rcases hpar with hp | hp
                          · skip
                            have H' := Aside0.mk H''
                            clear H''
                            go_wp2_with (first | ((with_reducible refine gate_callee (f := 64) rfl ?_); refine goesL_ (some 46) rfl rfl Tryd.func64 (by kernel_rfl) rfl #[] rfl (by (try simp only [List.map_toArray, List.map_cons, List.map_nil]); first | done | rfl) ?_; (with_reducible refine (impl_tie.calls 7 2 _ T2.out).mono ?_); rintro e w46 ⟨rfl, hb⟩; refine ⟨_, rfl, ?_⟩; have hs46 := Aside0.mk (hs.out.below hb); have BK46 := Aside0.mk (blk_below BK6.out hb); clear hb; have hct_0 : w46.cell? ⟨g6, 0, none⟩ = some (.int .i64 4) := (blk_cell BK46.out 0).trans rfl; have hct_1 : w46.cell? ⟨g6, 1, none⟩ = some (.int .i64 2) := (blk_cell BK46.out 1).trans rfl; have hzt_0 := blk_frozen BK46.out 0; have hzt_1 := blk_frozen BK46.out 1; have hc5_0 : w46.cell? ⟨w.heap.size + 1, 0, none⟩ = some (.string g) := (blk_cell hs46.out.b2 0).trans rfl; have hz5_0 := blk_frozen hs46.out.b2 0; have hc5_1 : w46.cell? ⟨w.heap.size + 1, 1, none⟩ = some (.int .i64 a) := (blk_cell hs46.out.b2 1).trans rfl; have hz5_1 := blk_frozen hs46.out.b2 1; have hc5_2 : w46.cell? ⟨w.heap.size + 1, 2, none⟩ = some (.int .i64 b) := (blk_cell hs46.out.b2 2).trans rfl; have hz5_2 := blk_frozen hs46.out.b2 2; have hc5_3 : w46.cell? ⟨w.heap.size + 1, 3, none⟩ = some (.string (o ++ a0.extract i (i + 1))) := (blk_cell hs46.out.b2 3).trans rfl; have hz5_3 := blk_frozen hs46.out.b2 3; have hc5_4 : w46.cell? ⟨w.heap.size + 1, 4, none⟩ = some (.int .i64 x) := (blk_cell hs46.out.b2 4).trans rfl; have hz5_4 := blk_frozen hs46.out.b2 4; have hc5_5 : w46.cell? ⟨w.heap.size + 1, 5, none⟩ = some (.int .i64 y) := (blk_cell hs46.out.b2 5).trans rfl; have hz5_5 := blk_frozen hs46.out.b2 5) | ((with_reducible refine gate_callee (f := 57) rfl ?_); refine goesL_ (some 50) rfl rfl Tryd.func57 (by kernel_rfl) rfl #[.agg #[.int .i64 7, .int .i64 2], .string (o ++ a0.extract i (i + 1))] rfl (by (try simp only [List.map_toArray, List.map_cons, List.map_nil]); first | done | rfl) ?_; (with_reducible refine (impl_follow.calls 7 2 (o ++ a0.extract i (i + 1)) q1 q2 ⟨#[98]⟩ q4 _ A3.out).mono ?_); rintro e w50 ⟨rfl, hb⟩; refine ⟨_, rfl, ?_⟩; have hs50 : Aside0 (impl_readSet.St w w50 w.heap.size (w.heap.size + 1) g a b (o ++ a0.extract i (i + 1)) x y) := ⟨impl_readSet.St.below (by repeat (first | with_reducible exact hs46.out | refine impl_readSet.St.far ?_ hn1 hn2 hg6 _ _)) hb⟩; clear hb; have hc6_0 : w50.cell? ⟨w.heap.size + 1, 0, none⟩ = some (.string g) := (blk_cell hs50.out.b2 0).trans rfl; have hz6_0 := blk_frozen hs50.out.b2 0; have hc6_1 : w50.cell? ⟨w.heap.size + 1, 1, none⟩ = some (.int .i64 a) := (blk_cell hs50.out.b2 1).trans rfl; have hz6_1 := blk_frozen hs50.out.b2 1; have hc6_2 : w50.cell? ⟨w.heap.size + 1, 2, none⟩ = some (.int .i64 b) := (blk_cell hs50.out.b2 2).trans rfl; have hz6_2 := blk_frozen hs50.out.b2 2; have hc6_3 : w50.cell? ⟨w.heap.size + 1, 3, none⟩ = some (.string (o ++ a0.extract i (i + 1))) := (blk_cell hs50.out.b2 3).trans rfl; have hz6_3 := blk_frozen hs50.out.b2 3; have hc6_4 : w50.cell? ⟨w.heap.size + 1, 4, none⟩ = some (.int .i64 x) := (blk_cell hs50.out.b2 4).trans rfl; have hz6_4 := blk_frozen hs50.out.b2 4; have hc6_5 : w50.cell? ⟨w.heap.size + 1, 5, none⟩ = some (.int .i64 y) := (blk_cell hs50.out.b2 5).trans rfl; have hz6_5 := blk_frozen hs50.out.b2 5))
                            go_roundg kq
                            case measure => omega
                            case rel => exact ⟨i + 1, _, _, _, _, _, _, by go_num, by omega, ⟨by repeat (first | with_reducible exact hs50.out | apply impl_readSet.St.set0 | apply impl_readSet.St.set1 | apply impl_readSet.St.set2 | apply impl_readSet.St.set3 | apply impl_readSet.St.set4 | apply impl_readSet.St.set5)⟩, H'⟩
                          · skip
                            have H' := Aside0.mk H''
                            clear H''
                            go_wp2_with (first | ((with_reducible refine gate_callee (f := 64) rfl ?_); refine goesL_ (some 46) rfl rfl Tryd.func64 (by kernel_rfl) rfl #[] rfl (by (try simp only [List.map_toArray, List.map_cons, List.map_nil]); first | done | rfl) ?_; (with_reducible refine (impl_tie.calls 7 2 _ T2.out).mono ?_); rintro e w46 ⟨rfl, hb⟩; refine ⟨_, rfl, ?_⟩; have hs46 := Aside0.mk (hs.out.below hb); have BK46 := Aside0.mk (blk_below BK6.out hb); clear hb; have hct_0 : w46.cell? ⟨g6, 0, none⟩ = some (.int .i64 4) := (blk_cell BK46.out 0).trans rfl; have hct_1 : w46.cell? ⟨g6, 1, none⟩ = some (.int .i64 2) := (blk_cell BK46.out 1).trans rfl; have hzt_0 := blk_frozen BK46.out 0; have hzt_1 := blk_frozen BK46.out 1; have hc5_0 : w46.cell? ⟨w.heap.size + 1, 0, none⟩ = some (.string g) := (blk_cell hs46.out.b2 0).trans rfl; have hz5_0 := blk_frozen hs46.out.b2 0; have hc5_1 : w46.cell? ⟨w.heap.size + 1, 1, none⟩ = some (.int .i64 a) := (blk_cell hs46.out.b2 1).trans rfl; have hz5_1 := blk_frozen hs46.out.b2 1; have hc5_2 : w46.cell? ⟨w.heap.size + 1, 2, none⟩ = some (.int .i64 b) := (blk_cell hs46.out.b2 2).trans rfl; have hz5_2 := blk_frozen hs46.out.b2 2; have hc5_3 : w46.cell? ⟨w.heap.size + 1, 3, none⟩ = some (.string (o ++ a0.extract i (i + 1))) := (blk_cell hs46.out.b2 3).trans rfl; have hz5_3 := blk_frozen hs46.out.b2 3; have hc5_4 : w46.cell? ⟨w.heap.size + 1, 4, none⟩ = some (.int .i64 x) := (blk_cell hs46.out.b2 4).trans rfl; have hz5_4 := blk_frozen hs46.out.b2 4; have hc5_5 : w46.cell? ⟨w.heap.size + 1, 5, none⟩ = some (.int .i64 y) := (blk_cell hs46.out.b2 5).trans rfl; have hz5_5 := blk_frozen hs46.out.b2 5) | ((with_reducible refine gate_callee (f := 57) rfl ?_); refine goesL_ (some 50) rfl rfl Tryd.func57 (by kernel_rfl) rfl #[.agg #[.int .i64 7, .int .i64 2], .string (o ++ a0.extract i (i + 1))] rfl (by (try simp only [List.map_toArray, List.map_cons, List.map_nil]); first | done | rfl) ?_; (with_reducible refine (impl_follow.calls 7 2 (o ++ a0.extract i (i + 1)) q1 q2 ⟨#[98]⟩ q4 _ A3.out).mono ?_); rintro e w50 ⟨rfl, hb⟩; refine ⟨_, rfl, ?_⟩; have hs50 : Aside0 (impl_readSet.St w w50 w.heap.size (w.heap.size + 1) g a b (o ++ a0.extract i (i + 1)) x y) := ⟨impl_readSet.St.below (by repeat (first | with_reducible exact hs46.out | refine impl_readSet.St.far ?_ hn1 hn2 hg6 _ _)) hb⟩; clear hb; have hc6_0 : w50.cell? ⟨w.heap.size + 1, 0, none⟩ = some (.string g) := (blk_cell hs50.out.b2 0).trans rfl; have hz6_0 := blk_frozen hs50.out.b2 0; have hc6_1 : w50.cell? ⟨w.heap.size + 1, 1, none⟩ = some (.int .i64 a) := (blk_cell hs50.out.b2 1).trans rfl; have hz6_1 := blk_frozen hs50.out.b2 1; have hc6_2 : w50.cell? ⟨w.heap.size + 1, 2, none⟩ = some (.int .i64 b) := (blk_cell hs50.out.b2 2).trans rfl; have hz6_2 := blk_frozen hs50.out.b2 2; have hc6_3 : w50.cell? ⟨w.heap.size + 1, 3, none⟩ = some (.string (o ++ a0.extract i (i + 1))) := (blk_cell hs50.out.b2 3).trans rfl; have hz6_3 := blk_frozen hs50.out.b2 3; have hc6_4 : w50.cell? ⟨w.heap.size + 1, 4, none⟩ = some (.int .i64 x) := (blk_cell hs50.out.b2 4).trans rfl; have hz6_4 := blk_frozen hs50.out.b2 4; have hc6_5 : w50.cell? ⟨w.heap.size + 1, 5, none⟩ = some (.int .i64 y) := (blk_cell hs50.out.b2 5).trans rfl; have hz6_5 := blk_frozen hs50.out.b2 5))
                            go_roundg kq
                            case measure => omega
                            case rel => exact ⟨i + 1, _, _, _, _, _, _, by go_num, by omega, ⟨by repeat (first | with_reducible exact hs50.out | apply impl_readSet.St.set0 | apply impl_readSet.St.set1 | apply impl_readSet.St.set2 | apply impl_readSet.St.set3 | apply impl_readSet.St.set4 | apply impl_readSet.St.set5)⟩, H'⟩
                    · obtain rfl : tie = false := htie.out.trans (decide_eq_false h6)
                      have A2' := A2.out
                      rw [if_neg h6] at A2'
                      have A3 := Aside0.mk (impl_follow.of_g A2')
                      clear A2' A2
                      cases q3 with
                      | none =>
                        have H'' := H'.out
                        simp only [impl_readSet.next] at H''
                        have H' := Aside0.mk H''
                        clear H''
                        have A3 : Aside0 (impl_follow.f 4 2 (o ++ a0.extract i (i + 1)) = some (q1, q2, ⟨#[45]⟩, q4)) := A3
                        clear h6
                        go_wp2_with (first | ((with_reducible refine gate_callee (f := 57) rfl ?_); refine goesL_ (some 50) rfl rfl Tryd.func57 (by kernel_rfl) rfl #[.agg #[.int .i64 4, .int .i64 2], .string (o ++ a0.extract i (i + 1))] rfl (by (try simp only [List.map_toArray, List.map_cons, List.map_nil]); first | done | rfl) ?_; (with_reducible refine (impl_follow.calls 4 2 (o ++ a0.extract i (i + 1)) q1 q2 ⟨#[45]⟩ q4 _ A3.out).mono ?_); rintro e w50 ⟨rfl, hb⟩; refine ⟨_, rfl, ?_⟩; have hs50 : Aside0 (impl_readSet.St w w50 w.heap.size (w.heap.size + 1) g a b (o ++ a0.extract i (i + 1)) x y) := ⟨impl_readSet.St.below (by repeat (first | with_reducible exact hs.out | refine impl_readSet.St.far ?_ hn1 hn2 hg6 _ _)) hb⟩; clear hb; have hc6_0 : w50.cell? ⟨w.heap.size + 1, 0, none⟩ = some (.string g) := (blk_cell hs50.out.b2 0).trans rfl; have hz6_0 := blk_frozen hs50.out.b2 0; have hc6_1 : w50.cell? ⟨w.heap.size + 1, 1, none⟩ = some (.int .i64 a) := (blk_cell hs50.out.b2 1).trans rfl; have hz6_1 := blk_frozen hs50.out.b2 1; have hc6_2 : w50.cell? ⟨w.heap.size + 1, 2, none⟩ = some (.int .i64 b) := (blk_cell hs50.out.b2 2).trans rfl; have hz6_2 := blk_frozen hs50.out.b2 2; have hc6_3 : w50.cell? ⟨w.heap.size + 1, 3, none⟩ = some (.string (o ++ a0.extract i (i + 1))) := (blk_cell hs50.out.b2 3).trans rfl; have hz6_3 := blk_frozen hs50.out.b2 3; have hc6_4 : w50.cell? ⟨w.heap.size + 1, 4, none⟩ = some (.int .i64 x) := (blk_cell hs50.out.b2 4).trans rfl; have hz6_4 := blk_frozen hs50.out.b2 4; have hc6_5 : w50.cell? ⟨w.heap.size + 1, 5, none⟩ = some (.int .i64 y) := (blk_cell hs50.out.b2 5).trans rfl; have hz6_5 := blk_frozen hs50.out.b2 5))
                        go_roundg kq
                        case measure => omega
                        case rel => exact ⟨i + 1, _, _, _, _, _, _, by go_num, by omega, ⟨by repeat (first | with_reducible exact hs50.out | apply impl_readSet.St.set0 | apply impl_readSet.St.set1 | apply impl_readSet.St.set2 | apply impl_readSet.St.set3 | apply impl_readSet.St.set4 | apply impl_readSet.St.set5)⟩, H'⟩
                      | some c =>
                        have H'' := H'.out
                        have HG' := HG.out
                        have hpar : (g.size : Int) % 2 = 0 ∨ (g.size : Int) % 2 = 1 := by omega
                        cases c with
                        | true =>
                          simp only [impl_readSet.next] at H''
                          rw [if_neg h6] at H''
                          have A3 : Aside0 (impl_follow.f 4 2 (o ++ a0.extract i (i + 1)) = some (q1, q2, ⟨#[97]⟩, q4)) := A3
                          clear h6
                          rcases hpar with hp | hp
                          · rw [if_pos hp] at H''
                            have H' := Aside0.mk H''
                            clear H''
                            go_wp2_with (first | ((with_reducible refine gate_callee (f := 57) rfl ?_); refine goesL_ (some 50) rfl rfl Tryd.func57 (by kernel_rfl) rfl #[.agg #[.int .i64 4, .int .i64 2], .string (o ++ a0.extract i (i + 1))] rfl (by (try simp only [List.map_toArray, List.map_cons, List.map_nil]); first | done | rfl) ?_; (with_reducible refine (impl_follow.calls 4 2 (o ++ a0.extract i (i + 1)) q1 q2 ⟨#[97]⟩ q4 _ A3.out).mono ?_); rintro e w50 ⟨rfl, hb⟩; refine ⟨_, rfl, ?_⟩; have hs50 : Aside0 (impl_readSet.St w w50 w.heap.size (w.heap.size + 1) g a b (o ++ a0.extract i (i + 1)) x y) := ⟨impl_readSet.St.below (by repeat (first | with_reducible exact hs.out | refine impl_readSet.St.far ?_ hn1 hn2 hg6 _ _)) hb⟩; clear hb; have hc6_0 : w50.cell? ⟨w.heap.size + 1, 0, none⟩ = some (.string g) := (blk_cell hs50.out.b2 0).trans rfl; have hz6_0 := blk_frozen hs50.out.b2 0; have hc6_1 : w50.cell? ⟨w.heap.size + 1, 1, none⟩ = some (.int .i64 a) := (blk_cell hs50.out.b2 1).trans rfl; have hz6_1 := blk_frozen hs50.out.b2 1; have hc6_2 : w50.cell? ⟨w.heap.size + 1, 2, none⟩ = some (.int .i64 b) := (blk_cell hs50.out.b2 2).trans rfl; have hz6_2 := blk_frozen hs50.out.b2 2; have hc6_3 : w50.cell? ⟨w.heap.size + 1, 3, none⟩ = some (.string (o ++ a0.extract i (i + 1))) := (blk_cell hs50.out.b2 3).trans rfl; have hz6_3 := blk_frozen hs50.out.b2 3; have hc6_4 : w50.cell? ⟨w.heap.size + 1, 4, none⟩ = some (.int .i64 x) := (blk_cell hs50.out.b2 4).trans rfl; have hz6_4 := blk_frozen hs50.out.b2 4; have hc6_5 : w50.cell? ⟨w.heap.size + 1, 5, none⟩ = some (.int .i64 y) := (blk_cell hs50.out.b2 5).trans rfl; have hz6_5 := blk_frozen hs50.out.b2 5))
                            go_roundg kq
                            case measure => omega
                            case rel => exact ⟨i + 1, _, _, _, _, _, _, by go_num, by omega, ⟨by repeat (first | with_reducible exact hs50.out | apply impl_readSet.St.set0 | apply impl_readSet.St.set1 | apply impl_readSet.St.set2 | apply impl_readSet.St.set3 | apply impl_readSet.St.set4 | apply impl_readSet.St.set5)⟩, H'⟩
                          · rw [if_neg (by omega)] at H''
                            have H' := Aside0.mk H''
                            clear H''
                            go_wp2_with (first | ((with_reducible refine gate_callee (f := 57) rfl ?_); refine goesL_ (some 50) rfl rfl Tryd.func57 (by kernel_rfl) rfl #[.agg #[.int .i64 4, .int .i64 2], .string (o ++ a0.extract i (i + 1))] rfl (by (try simp only [List.map_toArray, List.map_cons, List.map_nil]); first | done | rfl) ?_; (with_reducible refine (impl_follow.calls 4 2 (o ++ a0.extract i (i + 1)) q1 q2 ⟨#[97]⟩ q4 _ A3.out).mono ?_); rintro e w50 ⟨rfl, hb⟩; refine ⟨_, rfl, ?_⟩; have hs50 : Aside0 (impl_readSet.St w w50 w.heap.size (w.heap.size + 1) g a b (o ++ a0.extract i (i + 1)) x y) := ⟨impl_readSet.St.below (by repeat (first | with_reducible exact hs.out | refine impl_readSet.St.far ?_ hn1 hn2 hg6 _ _)) hb⟩; clear hb; have hc6_0 : w50.cell? ⟨w.heap.size + 1, 0, none⟩ = some (.string g) := (blk_cell hs50.out.b2 0).trans rfl; have hz6_0 := blk_frozen hs50.out.b2 0; have hc6_1 : w50.cell? ⟨w.heap.size + 1, 1, none⟩ = some (.int .i64 a) := (blk_cell hs50.out.b2 1).trans rfl; have hz6_1 := blk_frozen hs50.out.b2 1; have hc6_2 : w50.cell? ⟨w.heap.size + 1, 2, none⟩ = some (.int .i64 b) := (blk_cell hs50.out.b2 2).trans rfl; have hz6_2 := blk_frozen hs50.out.b2 2; have hc6_3 : w50.cell? ⟨w.heap.size + 1, 3, none⟩ = some (.string (o ++ a0.extract i (i + 1))) := (blk_cell hs50.out.b2 3).trans rfl; have hz6_3 := blk_frozen hs50.out.b2 3; have hc6_4 : w50.cell? ⟨w.heap.size + 1, 4, none⟩ = some (.int .i64 x) := (blk_cell hs50.out.b2 4).trans rfl; have hz6_4 := blk_frozen hs50.out.b2 4; have hc6_5 : w50.cell? ⟨w.heap.size + 1, 5, none⟩ = some (.int .i64 y) := (blk_cell hs50.out.b2 5).trans rfl; have hz6_5 := blk_frozen hs50.out.b2 5))
                            go_roundg kq
                            case measure => omega
                            case rel => exact ⟨i + 1, _, _, _, _, _, _, by go_num, by omega, ⟨by repeat (first | with_reducible exact hs50.out | apply impl_readSet.St.set0 | apply impl_readSet.St.set1 | apply impl_readSet.St.set2 | apply impl_readSet.St.set3 | apply impl_readSet.St.set4 | apply impl_readSet.St.set5)⟩, H'⟩
                        | false =>
                          simp only [impl_readSet.next] at H''
                          rw [if_neg h6] at H''
                          have A3 : Aside0 (impl_follow.f 4 2 (o ++ a0.extract i (i + 1)) = some (q1, q2, ⟨#[98]⟩, q4)) := A3
                          clear h6
                          rcases hpar with hp | hp
                          · rw [if_pos hp] at H''
                            have H' := Aside0.mk H''
                            clear H''
                            go_wp2_with (first | ((with_reducible refine gate_callee (f := 57) rfl ?_); refine goesL_ (some 50) rfl rfl Tryd.func57 (by kernel_rfl) rfl #[.agg #[.int .i64 4, .int .i64 2], .string (o ++ a0.extract i (i + 1))] rfl (by (try simp only [List.map_toArray, List.map_cons, List.map_nil]); first | done | rfl) ?_; (with_reducible refine (impl_follow.calls 4 2 (o ++ a0.extract i (i + 1)) q1 q2 ⟨#[98]⟩ q4 _ A3.out).mono ?_); rintro e w50 ⟨rfl, hb⟩; refine ⟨_, rfl, ?_⟩; have hs50 : Aside0 (impl_readSet.St w w50 w.heap.size (w.heap.size + 1) g a b (o ++ a0.extract i (i + 1)) x y) := ⟨impl_readSet.St.below (by repeat (first | with_reducible exact hs.out | refine impl_readSet.St.far ?_ hn1 hn2 hg6 _ _)) hb⟩; clear hb; have hc6_0 : w50.cell? ⟨w.heap.size + 1, 0, none⟩ = some (.string g) := (blk_cell hs50.out.b2 0).trans rfl; have hz6_0 := blk_frozen hs50.out.b2 0; have hc6_1 : w50.cell? ⟨w.heap.size + 1, 1, none⟩ = some (.int .i64 a) := (blk_cell hs50.out.b2 1).trans rfl; have hz6_1 := blk_frozen hs50.out.b2 1; have hc6_2 : w50.cell? ⟨w.heap.size + 1, 2, none⟩ = some (.int .i64 b) := (blk_cell hs50.out.b2 2).trans rfl; have hz6_2 := blk_frozen hs50.out.b2 2; have hc6_3 : w50.cell? ⟨w.heap.size + 1, 3, none⟩ = some (.string (o ++ a0.extract i (i + 1))) := (blk_cell hs50.out.b2 3).trans rfl; have hz6_3 := blk_frozen hs50.out.b2 3; have hc6_4 : w50.cell? ⟨w.heap.size + 1, 4, none⟩ = some (.int .i64 x) := (blk_cell hs50.out.b2 4).trans rfl; have hz6_4 := blk_frozen hs50.out.b2 4; have hc6_5 : w50.cell? ⟨w.heap.size + 1, 5, none⟩ = some (.int .i64 y) := (blk_cell hs50.out.b2 5).trans rfl; have hz6_5 := blk_frozen hs50.out.b2 5))
                            go_roundg kq
                            case measure => omega
                            case rel => exact ⟨i + 1, _, _, _, _, _, _, by go_num, by omega, ⟨by repeat (first | with_reducible exact hs50.out | apply impl_readSet.St.set0 | apply impl_readSet.St.set1 | apply impl_readSet.St.set2 | apply impl_readSet.St.set3 | apply impl_readSet.St.set4 | apply impl_readSet.St.set5)⟩, H'⟩
                          · rw [if_neg (by omega)] at H''
                            have H' := Aside0.mk H''
                            clear H''
                            go_wp2_with (first | ((with_reducible refine gate_callee (f := 57) rfl ?_); refine goesL_ (some 50) rfl rfl Tryd.func57 (by kernel_rfl) rfl #[.agg #[.int .i64 4, .int .i64 2], .string (o ++ a0.extract i (i + 1))] rfl (by (try simp only [List.map_toArray, List.map_cons, List.map_nil]); first | done | rfl) ?_; (with_reducible refine (impl_follow.calls 4 2 (o ++ a0.extract i (i + 1)) q1 q2 ⟨#[98]⟩ q4 _ A3.out).mono ?_); rintro e w50 ⟨rfl, hb⟩; refine ⟨_, rfl, ?_⟩; have hs50 : Aside0 (impl_readSet.St w w50 w.heap.size (w.heap.size + 1) g a b (o ++ a0.extract i (i + 1)) x y) := ⟨impl_readSet.St.below (by repeat (first | with_reducible exact hs.out | refine impl_readSet.St.far ?_ hn1 hn2 hg6 _ _)) hb⟩; clear hb; have hc6_0 : w50.cell? ⟨w.heap.size + 1, 0, none⟩ = some (.string g) := (blk_cell hs50.out.b2 0).trans rfl; have hz6_0 := blk_frozen hs50.out.b2 0; have hc6_1 : w50.cell? ⟨w.heap.size + 1, 1, none⟩ = some (.int .i64 a) := (blk_cell hs50.out.b2 1).trans rfl; have hz6_1 := blk_frozen hs50.out.b2 1; have hc6_2 : w50.cell? ⟨w.heap.size + 1, 2, none⟩ = some (.int .i64 b) := (blk_cell hs50.out.b2 2).trans rfl; have hz6_2 := blk_frozen hs50.out.b2 2; have hc6_3 : w50.cell? ⟨w.heap.size + 1, 3, none⟩ = some (.string (o ++ a0.extract i (i + 1))) := (blk_cell hs50.out.b2 3).trans rfl; have hz6_3 := blk_frozen hs50.out.b2 3; have hc6_4 : w50.cell? ⟨w.heap.size + 1, 4, none⟩ = some (.int .i64 x) := (blk_cell hs50.out.b2 4).trans rfl; have hz6_4 := blk_frozen hs50.out.b2 4; have hc6_5 : w50.cell? ⟨w.heap.size + 1, 5, none⟩ = some (.int .i64 y) := (blk_cell hs50.out.b2 5).trans rfl; have hz6_5 := blk_frozen hs50.out.b2 5))
                            go_roundg kq
                            case measure => omega
                            case rel => exact ⟨i + 1, _, _, _, _, _, _, by go_num, by omega, ⟨by repeat (first | with_reducible exact hs50.out | apply impl_readSet.St.set0 | apply impl_readSet.St.set1 | apply impl_readSet.St.set2 | apply impl_readSet.St.set3 | apply impl_readSet.St.set4 | apply impl_readSet.St.set5)⟩, H'⟩
              · rw [if_neg hs2] at H
                cases H
            · rw [if_neg ht] at H
              have c2b0 : (t.toList == ([45] : List UInt8)) = false := beq_eq_false_iff_ne.2 ht
              have c2b1 : (t.toList != ([45] : List UInt8)) = true := bne_iff_ne.2 ht
              clear ht
              cases H
              have hd_0 : wr.cell? ⟨w.heap.size, 0, none⟩ = some (.string ⟨#[]⟩) := (blk_cell hst.out.b1 0).trans rfl; have hy_0 := blk_frozen hst.out.b1 0
              have hd_1 : wr.cell? ⟨w.heap.size, 1, none⟩ = some (.int .i64 0) := (blk_cell hst.out.b1 1).trans rfl; have hy_1 := blk_frozen hst.out.b1 1
              have hd_2 : wr.cell? ⟨w.heap.size, 2, none⟩ = some (.int .i64 0) := (blk_cell hst.out.b1 2).trans rfl; have hy_2 := blk_frozen hst.out.b1 2
              have hd_3 : wr.cell? ⟨w.heap.size, 3, none⟩ = some (.string ⟨#[]⟩) := (blk_cell hst.out.b1 3).trans rfl; have hy_3 := blk_frozen hst.out.b1 3
              have hd_4 : wr.cell? ⟨w.heap.size, 4, none⟩ = some (.int .i64 0) := (blk_cell hst.out.b1 4).trans rfl; have hy_4 := blk_frozen hst.out.b1 4
              have hd_5 : wr.cell? ⟨w.heap.size, 5, none⟩ = some (.int .i64 0) := (blk_cell hst.out.b1 5).trans rfl; have hy_5 := blk_frozen hst.out.b1 5
              go_wp2_with (first | (go_at_call 53; (with_reducible refine (impl_setOver.calls 2 a b t _ A1.out).mono ?_); rintro e w9 ⟨rfl, ⟨nd, rfl⟩⟩))
              refine bodyPost_ret (results_ct rfl _ _ w.heap.size 47 #[.string ⟨#[]⟩, .int .i64 0, .int .i64 0, .string ⟨#[]⟩, .int .i64 0, .int .i64 0] (0, 0) _ rfl ((hst.out.drewN _).res _ _ _ _ _ _) Tryd.underlying47 rfl (by kernel_rfl)) rfl ?_
              exact ⟨rfl, by repeat (first | exact (hst.out.drewN _).hb | refine below_set ?_ hst.out.h1)⟩
          · rw [if_neg hlt] at H
            simp only [Option.some.injEq, Prod.mk.injEq] at H
            obtain ⟨rfl, rfl, rfl, rfl, rfl, rfl, rfl⟩ := H
            have hd_0 : wr.cell? ⟨w.heap.size, 0, none⟩ = some (.string ⟨#[]⟩) := (blk_cell hst.out.b1 0).trans rfl; have hy_0 := blk_frozen hst.out.b1 0
            have hd_1 : wr.cell? ⟨w.heap.size, 1, none⟩ = some (.int .i64 0) := (blk_cell hst.out.b1 1).trans rfl; have hy_1 := blk_frozen hst.out.b1 1
            have hd_2 : wr.cell? ⟨w.heap.size, 2, none⟩ = some (.int .i64 0) := (blk_cell hst.out.b1 2).trans rfl; have hy_2 := blk_frozen hst.out.b1 2
            have hd_3 : wr.cell? ⟨w.heap.size, 3, none⟩ = some (.string ⟨#[]⟩) := (blk_cell hst.out.b1 3).trans rfl; have hy_3 := blk_frozen hst.out.b1 3
            have hd_4 : wr.cell? ⟨w.heap.size, 4, none⟩ = some (.int .i64 0) := (blk_cell hst.out.b1 4).trans rfl; have hy_4 := blk_frozen hst.out.b1 4
            have hd_5 : wr.cell? ⟨w.heap.size, 5, none⟩ = some (.int .i64 0) := (blk_cell hst.out.b1 5).trans rfl; have hy_5 := blk_frozen hst.out.b1 5
            go_wp2
            refine bodyPost_ret (results_ct rfl _ _ w.heap.size 47 #[.string g, .int .i64 a, .int .i64 b, .string o, .int .i64 x, .int .i64 y] (0, 0) _ rfl (hst.out.res _ _ _ _ _ _) Tryd.underlying47 rfl (by kernel_rfl)) rfl ?_
            exact ⟨rfl, by repeat (first | exact hst.out.hb | refine below_set ?_ hst.out.h1)⟩
    · rw [if_neg hsz] at H
      cases H

end Go.Proofs.YtjnkcgddalbojaaDoor.PA
