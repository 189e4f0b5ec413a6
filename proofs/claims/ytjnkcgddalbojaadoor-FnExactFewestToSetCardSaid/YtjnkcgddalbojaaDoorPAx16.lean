/- Printed by this session's drive.py (the kit's print.py with hooks): functions of the seat as plain Lean functions, and the proofs that the calls do what these say. -/
import Derived.Test.YtjnkcgddalbojaaDoorPAx0
import Derived.Test.YtjnkcgddalbojaaDoorPAx15
namespace Go.Proofs.YtjnkcgddalbojaaDoor.PA
open Go.RowKit Go.Proofs.YtjnkcgddalbojaaDoorW.PrintWords Go.Proofs.YtjnkcgddalbojaaDoorW.PrintLast Go.Proofs.YtjnkcgddalbojaaDoorW.PrintMore
open Go.Proofs.YtjnkcgddalbojaaDoorH
attribute [local go_sem] max2_int min2_int max_two min_two max_three min_three max_four min_four   -- for this text's walks alone
set_option linter.unusedVariables false
set_option linter.unusedSimpArgs false

/-! ### impl_follow: function 57 -/
-- by hand
def wtxt : Option Bool → ByteArray
  | none => ⟨#[45]⟩
  | some true => ⟨#[97]⟩
  | some false => ⟨#[98]⟩
def impl_follow.next (l : Int → Int → Option Bool → Bool → Option (Int × Int × Option Bool × Bool)) (rt ld a b : Int) : Option Bool → Bool → Option (Int × Int × Option Bool × Bool)
  | some x, _ => l a b (some x) false
  | none, false => l a b none false
  | none, true => (impl_Race_hasWon.f rt ld a b).bind fun t => if t = true then l a b (some true) true else (impl_Race_hasWon.f rt ld b a).bind fun u => if u = true then l a b (some false) true else l a b none true
def impl_follow.l0 : Nat → Int → Int → ByteArray → Nat → Int → Int → Option Bool → Bool → Option (Int × Int × Option Bool × Bool)
  | 0, _, _, _, _, _, _, _, _ => none
  | k + 1, rt, ld, s, pos, a, b, win, play => if pos < s.size then (if ((Utf8.decode s pos).1 : Int) = 97 then impl_follow.next (impl_follow.l0 k rt ld s (pos + (Utf8.decode s pos).2)) rt ld (wrap64 (a + 1)) b win play else impl_follow.next (impl_follow.l0 k rt ld s (pos + (Utf8.decode s pos).2)) rt ld a (wrap64 (b + 1)) win play) else some (a, b, win, play)
def impl_follow.g (a0_0 : Int) (a0_1 : Int) (a1 : ByteArray) : Option (Int × Int × Option Bool × Bool) := impl_follow.l0 (a1.size + 1) a0_0 a0_1 a1 0 0 0 none true
def impl_follow.f (a0_0 : Int) (a0_1 : Int) (a1 : ByteArray) : Option (Int × Int × ByteArray × Bool) := (impl_follow.g a0_0 a0_1 a1).map fun r => (r.1, r.2.1, wtxt r.2.2.1, r.2.2.2)
theorem impl_follow.of_g {a0_0 : Int} {a0_1 : Int} {a1 : ByteArray} {r1 r2 : Int} {x : Option Bool} {r4 : Bool} (h : impl_follow.g a0_0 a0_1 a1 = some (r1, r2, x, r4)) : impl_follow.f a0_0 a0_1 a1 = some (r1, r2, wtxt x, r4) := by
  unfold impl_follow.f
  rw [h]
  rfl
structure impl_follow.St (w wr : World) (g0 g1 g2 g3 : Nat) (rt ld : Int) (s : ByteArray) (a b : Int) (win : ByteArray) (play : Bool) (pos : Nat) : Prop where
  b0 : wr.heap[g0]? = some (.cells #[.int .i64 rt, .int .i64 ld] 53 (0, 0))
  b1 : wr.heap[g1]? = some (.cells #[.int .i64 0, .int .i64 0, .string ⟨#[]⟩, .bool false] 57 (0, 0))
  b2 : wr.heap[g2]? = some (.cells #[.int .i64 a, .int .i64 b, .string win, .bool play] 57 (0, 0))
  b3 : wr.heap[g3]? = some (.stringIter s pos)
  hb : Below w.heap.size w wr
  h1 : w.heap.size ≤ g1
  h2 : w.heap.size ≤ g2
  h3 : w.heap.size ≤ g3
  n02 : g0 ≠ g2
  n12 : g1 ≠ g2
section
variable {w wr w' : World} {g0 g1 g2 g3 : Nat} {rt ld : Int} {s : ByteArray} {a b : Int} {win : ByteArray} {play : Bool} {pos : Nat}
theorem impl_follow.St.below (h : impl_follow.St w wr g0 g1 g2 g3 rt ld s a b win play pos) (k : Below wr.heap.size wr w') : impl_follow.St w w' g0 g1 g2 g3 rt ld s a b win play pos :=
  ⟨blk_below h.b0 k, blk_below h.b1 k, blk_below h.b2 k, blk_below h.b3 k, below_step h.hb k, h.h1, h.h2, h.h3, h.n02, h.n12⟩
theorem impl_follow.St.turn (h : impl_follow.St w wr g0 g1 g2 g3 rt ld s a b win play pos) (pos' : Nat) : impl_follow.St w (wr.iterAt g3 s pos') g0 g1 g2 g3 rt ld s a b win play pos' := by
  have ne : ∀ {g : Nat} {cs : Array Value} {t : TypeId}, wr.heap[g]? = some (.cells cs t (0, 0)) → g ≠ g3 := by
    intro g cs t hg e
    rw [e, h.b3] at hg
    cases hg
  exact ⟨(Lib.iterAt_other wr g3 g0 s pos' (ne h.b0)).trans h.b0, (Lib.iterAt_other wr g3 g1 s pos' (ne h.b1)).trans h.b1, (Lib.iterAt_other wr g3 g2 s pos' (ne h.b2)).trans h.b2, Lib.iterAt_heap wr g3 s pos pos' h.b3, Lib.below_iterAt h.hb h.h3 s pos', h.h1, h.h2, h.h3, h.n02, h.n12⟩
theorem impl_follow.St.put (h : impl_follow.St w wr g0 g1 g2 g3 rt ld s a b win play pos) (i : Nat) (u : Value) {a' b' : Int} {win' : ByteArray} {play' : Bool} (e : (#[.int .i64 a, .int .i64 b, .string win, .bool play] : Array Value).setIfInBounds i u = #[.int .i64 a', .int .i64 b', .string win', .bool play']) : impl_follow.St w (wr.setCell ⟨g2, i, none⟩ u) g0 g1 g2 g3 rt ld s a' b' win' play' pos := by
  have n3 : g3 ≠ g2 := by
    intro e
    have h3 := h.b3
    rw [e, h.b2] at h3
    cases h3
  exact ⟨blk_far h.b0 h.n02 u, blk_far h.b1 h.n12 u, blk_put h.b2 i u e, (Below.heap_setCell wr ⟨g2, i, none⟩ u g3 n3).trans h.b3, below_set h.hb h.h2, h.h1, h.h2, h.h3, h.n02, h.n12⟩
theorem impl_follow.St.setA (h : impl_follow.St w wr g0 g1 g2 g3 rt ld s a b win play pos) (x : Int) : impl_follow.St w (wr.setCell ⟨g2, 0, none⟩ (.int .i64 x)) g0 g1 g2 g3 rt ld s x b win play pos := h.put 0 _ rfl
theorem impl_follow.St.setB (h : impl_follow.St w wr g0 g1 g2 g3 rt ld s a b win play pos) (x : Int) : impl_follow.St w (wr.setCell ⟨g2, 1, none⟩ (.int .i64 x)) g0 g1 g2 g3 rt ld s a x win play pos := h.put 1 _ rfl
theorem impl_follow.St.setW (h : impl_follow.St w wr g0 g1 g2 g3 rt ld s a b win play pos) (x : ByteArray) : impl_follow.St w (wr.setCell ⟨g2, 2, none⟩ (.string x)) g0 g1 g2 g3 rt ld s a b x play pos := h.put 2 _ rfl
theorem impl_follow.St.setP (h : impl_follow.St w wr g0 g1 g2 g3 rt ld s a b win play pos) (x : Bool) : impl_follow.St w (wr.setCell ⟨g2, 3, none⟩ (.bool x)) g0 g1 g2 g3 rt ld s a b win x pos := h.put 3 _ rfl
theorem impl_follow.St.cells (h : impl_follow.St w wr g0 g1 g2 g3 rt ld s a b win play pos) : wr.cell? ⟨g0, 0, none⟩ = some (.int .i64 rt) ∧ wr.cell? ⟨g0, 1, none⟩ = some (.int .i64 ld) ∧ wr.cell? ⟨g2, 0, none⟩ = some (.int .i64 a) ∧ wr.cell? ⟨g2, 1, none⟩ = some (.int .i64 b) ∧ wr.cell? ⟨g2, 2, none⟩ = some (.string win) ∧ wr.cell? ⟨g2, 3, none⟩ = some (.bool play) :=
  ⟨(blk_cell h.b0 0).trans rfl, (blk_cell h.b0 1).trans rfl, (blk_cell h.b2 0).trans rfl, (blk_cell h.b2 1).trans rfl, (blk_cell h.b2 2).trans rfl, (blk_cell h.b2 3).trans rfl⟩
theorem impl_follow.St.frozen (h : impl_follow.St w wr g0 g1 g2 g3 rt ld s a b win play pos) : wr.frozen? ⟨g0, 0, none⟩ = false ∧ wr.frozen? ⟨g0, 1, none⟩ = false ∧ wr.frozen? ⟨g2, 0, none⟩ = false ∧ wr.frozen? ⟨g2, 1, none⟩ = false ∧ wr.frozen? ⟨g2, 2, none⟩ = false ∧ wr.frozen? ⟨g2, 3, none⟩ = false :=
  ⟨blk_frozen h.b0 0, blk_frozen h.b0 1, blk_frozen h.b2 0, blk_frozen h.b2 1, blk_frozen h.b2 2, blk_frozen h.b2 3⟩
end
set_option maxHeartbeats 8000000 in
set_option maxRecDepth 100000 in
theorem impl_follow.calls (a0_0 : Int) (a0_1 : Int) (a1 : ByteArray) (r1 : Int) (r2 : Int) (r3 : ByteArray) (r4 : Bool) (w : World) (h : impl_follow.f a0_0 a0_1 a1 = some (r1, r2, r3, r4)) :
    Calls Tryd.prog 57 #[.agg #[.int .i64 a0_0, .int .i64 a0_1], .string a1] w fun e w' => e = .returned (.agg #[.int .i64 r1, .int .i64 r2, .string r3, .bool r4]) ∧ Below w.heap.size w w' := by
  have hu53 := Tryd.underlying53
  have hu57 := Tryd.underlying57
  obtain ⟨⟨q1, q2, q3, q4⟩, hg, he⟩ := Option.map_eq_some_iff.1 h
  simp only [Prod.mk.injEq] at he
  obtain ⟨rfl, rfl, rfl, rfl⟩ := he
  have H : Aside0 (impl_follow.l0 (a1.size + 1) a0_0 a0_1 a1 0 0 0 none true = some (q1, q2, q3, q4)) := ⟨hg⟩
  clear h hg
  go_enter Tryd.func57, Tryd.ntmps57
  go_wp2
  go_loopg [7] (a1.size + 1) (fun kq _ wr => ∃ (pos : Nat) (a b : Int) (win : Option Bool) (play : Bool), Aside0 (impl_follow.St w wr w.heap.size (w.heap.size + 1) (w.heap.size + 1 + 1) (w.heap.size + 1 + 1 + 1) a0_0 a0_1 a1 a b (wtxt win) play pos) ∧ Aside0 (impl_follow.l0 kq a0_0 a0_1 a1 pos a b win play = some (q1, q2, q3, q4)))
  case atStart =>
    refine ⟨0, 0, 0, none, true, ⟨⟨?_, ?_, ?_, ?_, ?_, ?_, ?_, ?_, ?_, ?_⟩⟩, H⟩
    · exact blk_alloc (blk_alloc (blk_alloc (heap_at _ _ _ rfl) _) _) _
    · exact blk_alloc (blk_alloc (heap_at _ _ _ (by simp)) _) _
    · exact blk_alloc (heap_at _ _ _ (by simp)) _
    · exact heap_at _ _ _ (by simp)
    · exact below_alloc (below_alloc (below_alloc (below_alloc (Below.refl _ _) _) _) _) _
    all_goals omega
  case round =>
    obtain ⟨pos, a, b, win, play, hst, hf⟩ := hrel
    clear H
    cases gk with
    | zero => exact absurd hf.out (by simp [impl_follow.l0])
    | succ kq =>
      have H := hf.out
      clear hf
      simp only [impl_follow.l0] at H
      by_cases hp : pos < a1.size
      · obtain ⟨c, n, hd⟩ : ∃ c n, Utf8.decode a1 pos = (c, n) := ⟨_, _, rfl⟩
        have hs1 := Aside0.mk (hst.out.turn (pos + n))
        obtain ⟨w1, hw1⟩ : ∃ w1, w1 = wr.iterAt (w.heap.size + 1 + 1 + 1) a1 (pos + n) := ⟨_, rfl⟩
        have hnx : ∀ ty, (Instr.next (.pointer (some ⟨w.heap.size + 1 + 1 + 1, 0, none⟩)) true ty).run Tryd.prog wr = .ok (.tuple #[.bool true, .int .i64 pos, .int .i32 c]) w1 := by
          intro ty
          rw [hw1, Lib.run_next_any_at wr _ a1 pos ty hst.out.b3 hp, hd]
        rw [← hw1] at hs1
        clear hw1 hst
        rw [if_pos hp, hd] at H
        clear hp hd
        have hc1_0 := hs1.out.cells.1
        have hz1_0 := hs1.out.frozen.1
        have hc1_1 := hs1.out.cells.2.1
        have hz1_1 := hs1.out.frozen.2.1
        have hc1_2 := hs1.out.cells.2.2.1
        have hz1_2 := hs1.out.frozen.2.2.1
        have hc1_3 := hs1.out.cells.2.2.2.1
        have hz1_3 := hs1.out.frozen.2.2.2.1
        have hc1_4 := hs1.out.cells.2.2.2.2.1
        have hz1_4 := hs1.out.frozen.2.2.2.2.1
        have hc1_5 := hs1.out.cells.2.2.2.2.2
        have hz1_5 := hs1.out.frozen.2.2.2.2.2
        by_cases h97 : (c : Int) = 97
        · rw [if_pos h97] at H
          have c1b0 : ((c : Int) == 97) = true := beq_iff_eq.2 h97
          clear h97
          cases win with
          | some x =>
            simp only [impl_follow.next] at H
            cases x
            · simp only [wtxt] at hs1 hc1_4
              go_wp2
              go_roundg kq
              case measure => omega
              case rel => exact ⟨pos + n, (wrap64 (a + 1)), b, some false, false, ⟨(hs1.out.setP false).setA (wrap64 (a + 1))⟩, ⟨H⟩⟩
            · simp only [wtxt] at hs1 hc1_4
              go_wp2
              go_roundg kq
              case measure => omega
              case rel => exact ⟨pos + n, (wrap64 (a + 1)), b, some true, false, ⟨(hs1.out.setP false).setA (wrap64 (a + 1))⟩, ⟨H⟩⟩
          | none =>
            cases play with
            | false =>
              simp only [impl_follow.next] at H
              simp only [wtxt] at hs1 hc1_4
              go_wp2
              go_roundg kq
              case measure => omega
              case rel => exact ⟨pos + n, (wrap64 (a + 1)), b, none, false, ⟨hs1.out.setA (wrap64 (a + 1))⟩, ⟨H⟩⟩
            | true =>
              simp only [impl_follow.next] at H
              simp only [wtxt] at hs1 hc1_4
              obtain ⟨t, A1, H⟩ := Option.bind_eq_some_iff.mp H
              have A1 := Aside0.mk A1
              cases t with
              | true =>
                rw [if_pos rfl] at H
                go_wp2_with (first | ((with_reducible refine gate_callee (f := 82) rfl ?_); refine goesL_ (some 38) rfl rfl Tryd.func82 (by kernel_rfl) rfl #[.agg #[.int .i64 a0_0, .int .i64 a0_1], .int .i64 (wrap64 (a + 1)), .int .i64 b] rfl (by (try simp only [List.map_toArray, List.map_cons, List.map_nil]); first | done | rfl) ?_; (with_reducible refine (impl_Race_hasWon.calls a0_0 a0_1 (wrap64 (a + 1)) b true _ A1.out).mono ?_); rintro e w38 ⟨rfl, hb⟩; refine ⟨_, rfl, ?_⟩; have hs2 := Aside0.mk ((hs1.out.setA (wrap64 (a + 1))).below hb); clear hb; have hc2_0 := hs2.out.cells.1; have hz2_0 := hs2.out.frozen.1; have hc2_1 := hs2.out.cells.2.1; have hz2_1 := hs2.out.frozen.2.1; have hc2_2 := hs2.out.cells.2.2.1; have hz2_2 := hs2.out.frozen.2.2.1; have hc2_3 := hs2.out.cells.2.2.2.1; have hz2_3 := hs2.out.frozen.2.2.2.1; have hc2_4 := hs2.out.cells.2.2.2.2.1; have hz2_4 := hs2.out.frozen.2.2.2.2.1; have hc2_5 := hs2.out.cells.2.2.2.2.2; have hz2_5 := hs2.out.frozen.2.2.2.2.2))
                go_roundg kq
                case measure => omega
                case rel => exact ⟨pos + n, (wrap64 (a + 1)), b, some true, true, ⟨hs2.out.setW _⟩, ⟨H⟩⟩
              | false =>
                rw [if_neg Bool.false_ne_true] at H
                obtain ⟨u, A2, H⟩ := Option.bind_eq_some_iff.mp H
                have A2 := Aside0.mk A2
                cases u with
                | true =>
                  rw [if_pos rfl] at H
                  go_wp2_with (first | ((with_reducible refine gate_callee (f := 82) rfl ?_); refine goesL_ (some 38) rfl rfl Tryd.func82 (by kernel_rfl) rfl #[.agg #[.int .i64 a0_0, .int .i64 a0_1], .int .i64 (wrap64 (a + 1)), .int .i64 b] rfl (by (try simp only [List.map_toArray, List.map_cons, List.map_nil]); first | done | rfl) ?_; (with_reducible refine (impl_Race_hasWon.calls a0_0 a0_1 (wrap64 (a + 1)) b false _ A1.out).mono ?_); rintro e w38 ⟨rfl, hb⟩; refine ⟨_, rfl, ?_⟩; have hs2 := Aside0.mk ((hs1.out.setA (wrap64 (a + 1))).below hb); clear hb; have hc2_0 := hs2.out.cells.1; have hz2_0 := hs2.out.frozen.1; have hc2_1 := hs2.out.cells.2.1; have hz2_1 := hs2.out.frozen.2.1; have hc2_2 := hs2.out.cells.2.2.1; have hz2_2 := hs2.out.frozen.2.2.1; have hc2_3 := hs2.out.cells.2.2.2.1; have hz2_3 := hs2.out.frozen.2.2.2.1; have hc2_4 := hs2.out.cells.2.2.2.2.1; have hz2_4 := hs2.out.frozen.2.2.2.2.1; have hc2_5 := hs2.out.cells.2.2.2.2.2; have hz2_5 := hs2.out.frozen.2.2.2.2.2) | ((with_reducible refine gate_callee (f := 82) rfl ?_); refine goesL_ (some 46) rfl rfl Tryd.func82 (by kernel_rfl) rfl #[.agg #[.int .i64 a0_0, .int .i64 a0_1], .int .i64 b, .int .i64 (wrap64 (a + 1))] rfl (by (try simp only [List.map_toArray, List.map_cons, List.map_nil]); first | done | rfl) ?_; (with_reducible refine (impl_Race_hasWon.calls a0_0 a0_1 b (wrap64 (a + 1)) true _ A2.out).mono ?_); rintro e w46 ⟨rfl, hb⟩; refine ⟨_, rfl, ?_⟩; have hs3 := Aside0.mk (hs2.out.below hb); clear hb; have hc3_0 := hs3.out.cells.1; have hz3_0 := hs3.out.frozen.1; have hc3_1 := hs3.out.cells.2.1; have hz3_1 := hs3.out.frozen.2.1; have hc3_2 := hs3.out.cells.2.2.1; have hz3_2 := hs3.out.frozen.2.2.1; have hc3_3 := hs3.out.cells.2.2.2.1; have hz3_3 := hs3.out.frozen.2.2.2.1; have hc3_4 := hs3.out.cells.2.2.2.2.1; have hz3_4 := hs3.out.frozen.2.2.2.2.1; have hc3_5 := hs3.out.cells.2.2.2.2.2; have hz3_5 := hs3.out.frozen.2.2.2.2.2))
                  go_roundg kq
                  case measure => omega
                  case rel => exact ⟨pos + n, (wrap64 (a + 1)), b, some false, true, ⟨hs3.out.setW _⟩, ⟨H⟩⟩
                | false =>
                  rw [if_neg Bool.false_ne_true] at H
                  go_wp2_with (first | ((with_reducible refine gate_callee (f := 82) rfl ?_); refine goesL_ (some 38) rfl rfl Tryd.func82 (by kernel_rfl) rfl #[.agg #[.int .i64 a0_0, .int .i64 a0_1], .int .i64 (wrap64 (a + 1)), .int .i64 b] rfl (by (try simp only [List.map_toArray, List.map_cons, List.map_nil]); first | done | rfl) ?_; (with_reducible refine (impl_Race_hasWon.calls a0_0 a0_1 (wrap64 (a + 1)) b false _ A1.out).mono ?_); rintro e w38 ⟨rfl, hb⟩; refine ⟨_, rfl, ?_⟩; have hs2 := Aside0.mk ((hs1.out.setA (wrap64 (a + 1))).below hb); clear hb; have hc2_0 := hs2.out.cells.1; have hz2_0 := hs2.out.frozen.1; have hc2_1 := hs2.out.cells.2.1; have hz2_1 := hs2.out.frozen.2.1; have hc2_2 := hs2.out.cells.2.2.1; have hz2_2 := hs2.out.frozen.2.2.1; have hc2_3 := hs2.out.cells.2.2.2.1; have hz2_3 := hs2.out.frozen.2.2.2.1; have hc2_4 := hs2.out.cells.2.2.2.2.1; have hz2_4 := hs2.out.frozen.2.2.2.2.1; have hc2_5 := hs2.out.cells.2.2.2.2.2; have hz2_5 := hs2.out.frozen.2.2.2.2.2) | ((with_reducible refine gate_callee (f := 82) rfl ?_); refine goesL_ (some 46) rfl rfl Tryd.func82 (by kernel_rfl) rfl #[.agg #[.int .i64 a0_0, .int .i64 a0_1], .int .i64 b, .int .i64 (wrap64 (a + 1))] rfl (by (try simp only [List.map_toArray, List.map_cons, List.map_nil]); first | done | rfl) ?_; (with_reducible refine (impl_Race_hasWon.calls a0_0 a0_1 b (wrap64 (a + 1)) false _ A2.out).mono ?_); rintro e w46 ⟨rfl, hb⟩; refine ⟨_, rfl, ?_⟩; have hs3 := Aside0.mk (hs2.out.below hb); clear hb; have hc3_0 := hs3.out.cells.1; have hz3_0 := hs3.out.frozen.1; have hc3_1 := hs3.out.cells.2.1; have hz3_1 := hs3.out.frozen.2.1; have hc3_2 := hs3.out.cells.2.2.1; have hz3_2 := hs3.out.frozen.2.2.1; have hc3_3 := hs3.out.cells.2.2.2.1; have hz3_3 := hs3.out.frozen.2.2.2.1; have hc3_4 := hs3.out.cells.2.2.2.2.1; have hz3_4 := hs3.out.frozen.2.2.2.2.1; have hc3_5 := hs3.out.cells.2.2.2.2.2; have hz3_5 := hs3.out.frozen.2.2.2.2.2))
                  go_roundg kq
                  case measure => omega
                  case rel => exact ⟨pos + n, (wrap64 (a + 1)), b, none, true, ⟨hs3.out⟩, ⟨H⟩⟩
        · rw [if_neg h97] at H
          have c1b0 : ((c : Int) == 97) = false := beq_eq_false_iff_ne.2 h97
          clear h97
          cases win with
          | some x =>
            simp only [impl_follow.next] at H
            cases x
            · simp only [wtxt] at hs1 hc1_4
              go_wp2
              go_roundg kq
              case measure => omega
              case rel => exact ⟨pos + n, a, (wrap64 (b + 1)), some false, false, ⟨(hs1.out.setP false).setB (wrap64 (b + 1))⟩, ⟨H⟩⟩
            · simp only [wtxt] at hs1 hc1_4
              go_wp2
              go_roundg kq
              case measure => omega
              case rel => exact ⟨pos + n, a, (wrap64 (b + 1)), some true, false, ⟨(hs1.out.setP false).setB (wrap64 (b + 1))⟩, ⟨H⟩⟩
          | none =>
            cases play with
            | false =>
              simp only [impl_follow.next] at H
              simp only [wtxt] at hs1 hc1_4
              go_wp2
              go_roundg kq
              case measure => omega
              case rel => exact ⟨pos + n, a, (wrap64 (b + 1)), none, false, ⟨hs1.out.setB (wrap64 (b + 1))⟩, ⟨H⟩⟩
            | true =>
              simp only [impl_follow.next] at H
              simp only [wtxt] at hs1 hc1_4
              obtain ⟨t, A1, H⟩ := Option.bind_eq_some_iff.mp H
              have A1 := Aside0.mk A1
              cases t with
              | true =>
                rw [if_pos rfl] at H
                go_wp2_with (first | ((with_reducible refine gate_callee (f := 82) rfl ?_); refine goesL_ (some 38) rfl rfl Tryd.func82 (by kernel_rfl) rfl #[.agg #[.int .i64 a0_0, .int .i64 a0_1], .int .i64 a, .int .i64 (wrap64 (b + 1))] rfl (by (try simp only [List.map_toArray, List.map_cons, List.map_nil]); first | done | rfl) ?_; (with_reducible refine (impl_Race_hasWon.calls a0_0 a0_1 a (wrap64 (b + 1)) true _ A1.out).mono ?_); rintro e w38 ⟨rfl, hb⟩; refine ⟨_, rfl, ?_⟩; have hs2 := Aside0.mk ((hs1.out.setB (wrap64 (b + 1))).below hb); clear hb; have hc2_0 := hs2.out.cells.1; have hz2_0 := hs2.out.frozen.1; have hc2_1 := hs2.out.cells.2.1; have hz2_1 := hs2.out.frozen.2.1; have hc2_2 := hs2.out.cells.2.2.1; have hz2_2 := hs2.out.frozen.2.2.1; have hc2_3 := hs2.out.cells.2.2.2.1; have hz2_3 := hs2.out.frozen.2.2.2.1; have hc2_4 := hs2.out.cells.2.2.2.2.1; have hz2_4 := hs2.out.frozen.2.2.2.2.1; have hc2_5 := hs2.out.cells.2.2.2.2.2; have hz2_5 := hs2.out.frozen.2.2.2.2.2))
                go_roundg kq
                case measure => omega
                case rel => exact ⟨pos + n, a, (wrap64 (b + 1)), some true, true, ⟨hs2.out.setW _⟩, ⟨H⟩⟩
              | false =>
                rw [if_neg Bool.false_ne_true] at H
                obtain ⟨u, A2, H⟩ := Option.bind_eq_some_iff.mp H
                have A2 := Aside0.mk A2
                cases u with
                | true =>
                  rw [if_pos rfl] at H
                  go_wp2_with (first | ((with_reducible refine gate_callee (f := 82) rfl ?_); refine goesL_ (some 38) rfl rfl Tryd.func82 (by kernel_rfl) rfl #[.agg #[.int .i64 a0_0, .int .i64 a0_1], .int .i64 a, .int .i64 (wrap64 (b + 1))] rfl (by (try simp only [List.map_toArray, List.map_cons, List.map_nil]); first | done | rfl) ?_; (with_reducible refine (impl_Race_hasWon.calls a0_0 a0_1 a (wrap64 (b + 1)) false _ A1.out).mono ?_); rintro e w38 ⟨rfl, hb⟩; refine ⟨_, rfl, ?_⟩; have hs2 := Aside0.mk ((hs1.out.setB (wrap64 (b + 1))).below hb); clear hb; have hc2_0 := hs2.out.cells.1; have hz2_0 := hs2.out.frozen.1; have hc2_1 := hs2.out.cells.2.1; have hz2_1 := hs2.out.frozen.2.1; have hc2_2 := hs2.out.cells.2.2.1; have hz2_2 := hs2.out.frozen.2.2.1; have hc2_3 := hs2.out.cells.2.2.2.1; have hz2_3 := hs2.out.frozen.2.2.2.1; have hc2_4 := hs2.out.cells.2.2.2.2.1; have hz2_4 := hs2.out.frozen.2.2.2.2.1; have hc2_5 := hs2.out.cells.2.2.2.2.2; have hz2_5 := hs2.out.frozen.2.2.2.2.2) | ((with_reducible refine gate_callee (f := 82) rfl ?_); refine goesL_ (some 46) rfl rfl Tryd.func82 (by kernel_rfl) rfl #[.agg #[.int .i64 a0_0, .int .i64 a0_1], .int .i64 (wrap64 (b + 1)), .int .i64 a] rfl (by (try simp only [List.map_toArray, List.map_cons, List.map_nil]); first | done | rfl) ?_; (with_reducible refine (impl_Race_hasWon.calls a0_0 a0_1 (wrap64 (b + 1)) a true _ A2.out).mono ?_); rintro e w46 ⟨rfl, hb⟩; refine ⟨_, rfl, ?_⟩; have hs3 := Aside0.mk (hs2.out.below hb); clear hb; have hc3_0 := hs3.out.cells.1; have hz3_0 := hs3.out.frozen.1; have hc3_1 := hs3.out.cells.2.1; have hz3_1 := hs3.out.frozen.2.1; have hc3_2 := hs3.out.cells.2.2.1; have hz3_2 := hs3.out.frozen.2.2.1; have hc3_3 := hs3.out.cells.2.2.2.1; have hz3_3 := hs3.out.frozen.2.2.2.1; have hc3_4 := hs3.out.cells.2.2.2.2.1; have hz3_4 := hs3.out.frozen.2.2.2.2.1; have hc3_5 := hs3.out.cells.2.2.2.2.2; have hz3_5 := hs3.out.frozen.2.2.2.2.2))
                  go_roundg kq
                  case measure => omega
                  case rel => exact ⟨pos + n, a, (wrap64 (b + 1)), some false, true, ⟨hs3.out.setW _⟩, ⟨H⟩⟩
                | false =>
                  rw [if_neg Bool.false_ne_true] at H
                  go_wp2_with (first | ((with_reducible refine gate_callee (f := 82) rfl ?_); refine goesL_ (some 38) rfl rfl Tryd.func82 (by kernel_rfl) rfl #[.agg #[.int .i64 a0_0, .int .i64 a0_1], .int .i64 a, .int .i64 (wrap64 (b + 1))] rfl (by (try simp only [List.map_toArray, List.map_cons, List.map_nil]); first | done | rfl) ?_; (with_reducible refine (impl_Race_hasWon.calls a0_0 a0_1 a (wrap64 (b + 1)) false _ A1.out).mono ?_); rintro e w38 ⟨rfl, hb⟩; refine ⟨_, rfl, ?_⟩; have hs2 := Aside0.mk ((hs1.out.setB (wrap64 (b + 1))).below hb); clear hb; have hc2_0 := hs2.out.cells.1; have hz2_0 := hs2.out.frozen.1; have hc2_1 := hs2.out.cells.2.1; have hz2_1 := hs2.out.frozen.2.1; have hc2_2 := hs2.out.cells.2.2.1; have hz2_2 := hs2.out.frozen.2.2.1; have hc2_3 := hs2.out.cells.2.2.2.1; have hz2_3 := hs2.out.frozen.2.2.2.1; have hc2_4 := hs2.out.cells.2.2.2.2.1; have hz2_4 := hs2.out.frozen.2.2.2.2.1; have hc2_5 := hs2.out.cells.2.2.2.2.2; have hz2_5 := hs2.out.frozen.2.2.2.2.2) | ((with_reducible refine gate_callee (f := 82) rfl ?_); refine goesL_ (some 46) rfl rfl Tryd.func82 (by kernel_rfl) rfl #[.agg #[.int .i64 a0_0, .int .i64 a0_1], .int .i64 (wrap64 (b + 1)), .int .i64 a] rfl (by (try simp only [List.map_toArray, List.map_cons, List.map_nil]); first | done | rfl) ?_; (with_reducible refine (impl_Race_hasWon.calls a0_0 a0_1 (wrap64 (b + 1)) a false _ A2.out).mono ?_); rintro e w46 ⟨rfl, hb⟩; refine ⟨_, rfl, ?_⟩; have hs3 := Aside0.mk (hs2.out.below hb); clear hb; have hc3_0 := hs3.out.cells.1; have hz3_0 := hs3.out.frozen.1; have hc3_1 := hs3.out.cells.2.1; have hz3_1 := hs3.out.frozen.2.1; have hc3_2 := hs3.out.cells.2.2.1; have hz3_2 := hs3.out.frozen.2.2.1; have hc3_3 := hs3.out.cells.2.2.2.1; have hz3_3 := hs3.out.frozen.2.2.2.1; have hc3_4 := hs3.out.cells.2.2.2.2.1; have hz3_4 := hs3.out.frozen.2.2.2.2.1; have hc3_5 := hs3.out.cells.2.2.2.2.2; have hz3_5 := hs3.out.frozen.2.2.2.2.2))
                  go_roundg kq
                  case measure => omega
                  case rel => exact ⟨pos + n, a, (wrap64 (b + 1)), none, true, ⟨hs3.out⟩, ⟨H⟩⟩
      · have hnx : ∀ ty, (Instr.next (.pointer (some ⟨w.heap.size + 1 + 1 + 1, 0, none⟩)) true ty).run Tryd.prog wr = .ok (.tuple #[.bool false]) wr := fun ty => Lib.run_next_end_at wr _ a1 pos ty hst.out.b3 hp
        rw [if_neg hp] at H
        simp only [Option.some.injEq, Prod.mk.injEq] at H
        obtain ⟨rfl, rfl, rfl, rfl⟩ := H
        clear hp
        have hc9_0 := hst.out.cells.1; have hz9_0 := hst.out.frozen.1; have hc9_1 := hst.out.cells.2.1; have hz9_1 := hst.out.frozen.2.1; have hc9_2 := hst.out.cells.2.2.1; have hz9_2 := hst.out.frozen.2.2.1; have hc9_3 := hst.out.cells.2.2.2.1; have hz9_3 := hst.out.frozen.2.2.2.1; have hc9_4 := hst.out.cells.2.2.2.2.1; have hz9_4 := hst.out.frozen.2.2.2.2.1; have hc9_5 := hst.out.cells.2.2.2.2.2; have hz9_5 := hst.out.frozen.2.2.2.2.2
        have hx0 : wr.cell? ⟨w.heap.size + 1, 0, none⟩ = some (.int .i64 0) := (blk_cell hst.out.b1 0).trans rfl; have hx1 : wr.cell? ⟨w.heap.size + 1, 1, none⟩ = some (.int .i64 0) := (blk_cell hst.out.b1 1).trans rfl; have hx2 : wr.cell? ⟨w.heap.size + 1, 2, none⟩ = some (.string ⟨#[]⟩) := (blk_cell hst.out.b1 2).trans rfl; have hx3 : wr.cell? ⟨w.heap.size + 1, 3, none⟩ = some (.bool false) := (blk_cell hst.out.b1 3).trans rfl
        have hy0 := blk_frozen hst.out.b1 0; have hy1 := blk_frozen hst.out.b1 1; have hy2 := blk_frozen hst.out.b1 2; have hy3 := blk_frozen hst.out.b1 3
        go_wp2
        refine bodyPost_ret (results_cell_row rfl _ _ (w.heap.size + 1) 57 #[.int .i64 a, .int .i64 b, .string (wtxt win), .bool play] (0, 0) _ rfl (by refine blk_put (cs := #[.int .i64 a, .int .i64 b, .string (wtxt win), .bool false]) ?_ 3 _ rfl; refine blk_put (cs := #[.int .i64 a, .int .i64 b, .string ⟨#[]⟩, .bool false]) ?_ 2 _ rfl; refine blk_put (cs := #[.int .i64 a, .int .i64 0, .string ⟨#[]⟩, .bool false]) ?_ 1 _ rfl; refine blk_put (cs := #[.int .i64 0, .int .i64 0, .string ⟨#[]⟩, .bool false]) ?_ 0 _ rfl; exact hst.out.b1) Tryd.underlying57 rfl (by kernel_rfl)) rfl ?_
        exact ⟨rfl, by repeat (first | exact hst.out.hb | refine below_set ?_ hst.out.h1)⟩

end Go.Proofs.YtjnkcgddalbojaaDoor.PA
