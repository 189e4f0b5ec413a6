/- Printed by this session's drive.py (the kit's print.py with hooks): functions of the seat as plain Lean functions, and the proofs that the calls do what these say. -/
import Derived.Test.YtjnkcgddalbojaaDoorPAx0
import Derived.Test.YtjnkcgddalbojaaDoorPAx11
import Derived.Test.YtjnkcgddalbojaaDoorPAx16
import Derived.Test.YtjnkcgddalbojaaDoorPAx17
import Derived.Test.YtjnkcgddalbojaaDoorPAx18
import Derived.Test.YtjnkcgddalbojaaDoorPAx43
namespace Go.Proofs.YtjnkcgddalbojaaDoor.PA
open Go.RowKit Go.Proofs.YtjnkcgddalbojaaDoorW.PrintWords Go.Proofs.YtjnkcgddalbojaaDoorW.PrintLast Go.Proofs.YtjnkcgddalbojaaDoorW.PrintMore
open Go.Proofs.YtjnkcgddalbojaaDoorH
attribute [local go_sem] max2_int min2_int max_two min_two max_three min_three max_four min_four   -- for this text's walks alone
set_option linter.unusedVariables false
set_option linter.unusedSimpArgs false

/-! ### impl_FewestToSet: function 36 -/
-- by hand
def impl_FewestToSet.cost (rt own other : Int) : Int := if rt - own < 2 + other - own then 2 + other - own else rt - own
def impl_FewestToSet.l0 : Nat → ByteArray → Int → Int → Int → ByteArray → Option (Int × Bool)
  | 0, _, _, _, _, _ => none
  | k + 1, sd, need, x, y, o => if 0 ≤ x ∧ x ≤ 100 ∧ 0 ≤ y ∧ y ≤ 100 ∧ 0 ≤ need ∧ need ≤ 100000 then ((impl_follow.f (if x = 6 ∧ y = 6 then 7 else 4) 2 o).bind fun p => if 0 ≤ p.1 ∧ p.1 ≤ 1000 ∧ 0 ≤ p.2.1 ∧ p.2.1 ≤ 1000 then (if sd.toList = [98] then ((impl_setOver.f 2 x (y + 1)).bind fun t => if t.toList = [98] then some (need + impl_FewestToSet.cost (if x = 6 ∧ y = 6 then 7 else 4) p.2.1 p.1, true) else impl_FewestToSet.l0 k sd (need + impl_FewestToSet.cost (if x = 6 ∧ y = 6 then 7 else 4) p.2.1 p.1) x (y + 1) ⟨#[]⟩) else ((impl_setOver.f 2 (x + 1) y).bind fun t => if t.toList = [97] then some (need + impl_FewestToSet.cost (if x = 6 ∧ y = 6 then 7 else 4) p.1 p.2.1, true) else impl_FewestToSet.l0 k sd (need + impl_FewestToSet.cost (if x = 6 ∧ y = 6 then 7 else 4) p.1 p.2.1) (x + 1) y ⟨#[]⟩)) else none) else none
def impl_FewestToSet.f (a0 a1 : ByteArray) : Option (Int × Bool) := (impl_readSet.f a0).bind fun r => if r.2.2.2.2.2.2 = true then (if a1.toList = [97] ∨ a1.toList = [98] then ((impl_setOver.f 2 r.2.1 r.2.2.1).bind fun t => if t.toList = [45] then impl_FewestToSet.l0 20 a1 0 r.2.1 r.2.2.1 r.2.2.2.1 else some (0, t.toList == a1.toList)) else some (0, false)) else some (0, false)
structure impl_FewestToSet.Dat (D : DataW Unit) (x y : Int) : Prop where
  im : Go.Maps.IsMap D
  at_a : D.atKey (.string [97]) (.lit (.int .i64 0)) = .lit (.int .i64 x)
  at_b : D.atKey (.string [98]) (.lit (.int .i64 0)) = .lit (.int .i64 y)
theorem impl_FewestToSet.Dat.putA {D : DataW Unit} {x y : Int} (h : impl_FewestToSet.Dat D x y) (z : Int) : impl_FewestToSet.Dat (D.put (.string [97]) (.lit (.int .i64 z))) z y :=
  ⟨h.im.put _ _, Go.Maps.atKey_put_same h.im (by simp only [WideAt.IsKeyLit]) _ _, (Go.Maps.atKey_put_other (by simp) _ _).trans h.at_b⟩
theorem impl_FewestToSet.Dat.putB {D : DataW Unit} {x y : Int} (h : impl_FewestToSet.Dat D x y) (z : Int) : impl_FewestToSet.Dat (D.put (.string [98]) (.lit (.int .i64 z))) x z :=
  ⟨h.im.put _ _, (Go.Maps.atKey_put_other (by simp) _ _).trans h.at_a, Go.Maps.atKey_put_same h.im (by simp only [WideAt.IsKeyLit]) _ _⟩
theorem impl_FewestToSet.klaw : Go.Maps.Keyed Tryd.prog 9 := Go.Maps.string_keyed Tryd.underlying9
theorem impl_FewestToSet.zero3 (w : World) : (zeroValue 3).run Tryd.prog w = .ok (.int .i64 0) w := by kernel_rfl
theorem impl_FewestToSet.byt {s : ByteArray} {l : List UInt8} (h : s.toList = l) : s = ⟨l.toArray⟩ := by
  rw [ByteArray.toList_eq] at h
  subst h
  rfl
theorem impl_FewestToSet.int_eq {D : DataW Unit} {kl : Lit} {c x : Int} (h : D.atKey kl (.lit (.int .i64 0)) = .lit (.int .i64 c)) (h' : D.atKey kl (.lit (.int .i64 0)) = .lit (.int .i64 x)) : c = x := by
  rw [h] at h'
  simpa using h'
theorem impl_FewestToSet.own_below {w w' : World} {R : Value → Option (DataW Unit × List MemPlace)} {b n : Nat} {D : DataW Unit} (h : w.ownsMap Tryd.prog 9 R b n D) (hb : Below w.heap.size w w') : w'.ownsMap Tryd.prog 9 R b n D := by
  obtain ⟨es, clock, h1, r⟩ := h
  exact ⟨es, clock, (hb.block b (blk_lt h1)).trans h1, r⟩
theorem impl_FewestToSet.own_set {w : World} {R : Value → Option (DataW Unit × List MemPlace)} {b n : Nat} {D : DataW Unit} (h : w.ownsMap Tryd.prog 9 R b n D) {p : Addr} (hp : b ≠ p.block) (u : Value) : (w.setCell p u).ownsMap Tryd.prog 9 R b n D := by
  obtain ⟨es, clock, h1, r⟩ := h
  exact ⟨es, clock, (Below.heap_setCell w p u b hp).trans h1, r⟩
theorem impl_FewestToSet.own_made (W : World) (B : Nat) {R : Value → Option (DataW Unit × List MemPlace)} (h : W.heap.size = B) : (W.alloc (.map #[] 0)).ownsMap Tryd.prog 9 R B 0 (.map []) := by
  subst h
  exact World.ownsMap_made _ _ _ _
theorem impl_FewestToSet.l97 : (⟨#[97]⟩ : ByteArray).toList = [97] := ByteArray.toList_eq _
theorem impl_FewestToSet.l98 : (⟨#[98]⟩ : ByteArray).toList = [98] := ByteArray.toList_eq _
theorem impl_FewestToSet.l0_bd {k : Nat} {sd o : ByteArray} {need x y : Int} {r : Int × Bool} (h : impl_FewestToSet.l0 (k + 1) sd need x y o = some r) : 0 ≤ x ∧ x ≤ 100 ∧ 0 ≤ y ∧ y ≤ 100 ∧ 0 ≤ need ∧ need ≤ 100000 := by
  simp only [impl_FewestToSet.l0] at h
  by_cases hg : 0 ≤ x ∧ x ≤ 100 ∧ 0 ≤ y ∧ y ≤ 100 ∧ 0 ≤ need ∧ need ≤ 100000
  · exact hg
  · rw [if_neg hg] at h; cases h
/-- A key and its value laid into a new map (a map written out). -/
theorem impl_FewestToSet.insert_own {H : Type} {P : Program} (w : World) {ops : Array Oper} {rest : List Oper} {o : Oper} {a : Act} {Q : Exit → Act → World → Prop}
    (hg : o.guard = none) (m x v : Operand) (t : TypeId) (hop : o.op = Op.insert t m x v)
    (k e : TypeId) (K : Go.Maps.Keyed P k) (ht : P.underlying t = some (.map k e)) (R : Value → Option (DataW H × List MemPlace)) (b n : Nat) (D : DataW H)
    (hm : a.eval m = .map (some b)) (hown : w.ownsMap P k R b n D) (hn : n < maxLen) (key val : Value) (kl : Lit) (hx : a.eval x = key) (hv : a.eval v = val) (hkey : keyOf P k key = some kl)
    (d : DataW H) (ps : List MemPlace) (hval : R val = some (d, ps))
    (hK : ∀ w', w'.ownsMap P k R b (n + 1) (D.put kl d) → w.grownBy w' (some b) → wpList P ops Q rest (a.put o.dst undef) w') :
    wpList P ops Q (o :: rest) a w := by
  refine wpList_plain hg fun K' hK' => ?_
  obtain ⟨w', hrun, r1, r2⟩ := hown.update K ht hn hkey hval
  unfold Oper.wp
  simp [execOp, hop, hm, hx, hv, hrun, Result.andThen]
  exact hK' _ _ (hK w' r1 r2)
set_option maxHeartbeats 8000000 in
set_option maxRecDepth 100000 in
theorem impl_FewestToSet.calls (a0 : ByteArray) (a1 : ByteArray) (r1 : Int) (r2 : Bool) (w : World) (h : impl_FewestToSet.f a0 a1 = some (r1, r2)) :
    Calls Tryd.prog 36 #[.string a0, .string a1] w fun e w' => e = .returned (.tuple #[.int .i64 r1, .bool r2]) ∧ Below w.heap.size w w' := by
  have huS := Tryd.underlying47
  have huR := Tryd.underlying53
  have huP := Tryd.underlying57
  have huA := Tryd.underlying45
  have hmm := @run_makeMap Tryd.prog
  obtain ⟨⟨g, a, b, o, x, y, ok⟩, A0, H⟩ := Option.bind_eq_some_iff.mp h
  clear h
  have A0 := Aside0.mk A0
  cases ok with
  | false =>
    replace H : some ((0 : Int), false) = some (r1, r2) := H
    simp only [Option.some.injEq, Prod.mk.injEq] at H
    obtain ⟨rfl, rfl⟩ := H
    go_enter Tryd.func36, Tryd.ntmps36
    go_wp2_with (first | (go_at_call 52; (with_reducible refine (impl_readSet.calls a0 g a b o x y false _ A0.out).mono ?_); rintro e w8 ⟨rfl, hb⟩; have HB := Aside0.mk hb; clear hb))
    go_ret2
    exact ⟨rfl, below_alloc HB.out _⟩
  | true =>
    replace H : (if a1.toList = [97] ∨ a1.toList = [98] then ((impl_setOver.f 2 a b).bind fun t => if t.toList = [45] then impl_FewestToSet.l0 20 a1 0 a b o else some (0, t.toList == a1.toList)) else some (0, false)) = some (r1, r2) := H
    by_cases hA : a1.toList = [97]
    · rw [if_pos (.inl hA)] at H
      obtain rfl := impl_FewestToSet.byt hA
      clear hA
      have S : Aside0 (impl_isSide.f ⟨#[97]⟩ = some true) := ⟨by unfold impl_isSide.f; rw [impl_FewestToSet.l97]; rfl⟩
      replace H := Option.bind_eq_some_iff.mp H
      obtain ⟨t, A1, H⟩ := H
      have A1 := Aside0.mk A1
      by_cases ht : t.toList = [45]
      · rw [if_pos ht] at H
        have c1 : (t.toList == ([45] : List UInt8)) = true := beq_iff_eq.2 ht
        have c2 : (t.toList != ([45] : List UInt8)) = false := bne_eq_false_iff_eq.2 ht
        clear ht
        obtain ⟨bd0, bd1, bd2, bd3, _, _⟩ := impl_FewestToSet.l0_bd H
        have V := Aside0.mk H
        clear H
        have T1 : Aside0 (impl_tennis.f = some (4, 2)) := ⟨rfl⟩
        have T2 : Aside0 (impl_tie.f = some (7, 2)) := ⟨rfl⟩
        have KA := Lib.hid (show keyOf Tryd.prog 9 (.string ⟨#[97]⟩) = some (.string [97]) from Go.WideMaps.keyOf_string_mk Tryd.underlying9 (by decide))
        have KB := Lib.hid (show keyOf Tryd.prog 9 (.string ⟨#[98]⟩) = some (.string [98]) from Go.WideMaps.keyOf_string_mk Tryd.underlying9 (by decide))
        go_enter Tryd.func36, Tryd.ntmps36
        go_wp2_with (first | (go_at_call 52; (with_reducible refine (impl_readSet.calls a0 g a b o x y true _ A0.out).mono ?_); rintro e w8 ⟨rfl, hb⟩; have HB := Aside0.mk hb; clear hb) | (go_at_call 63; (with_reducible refine (impl_isSide.calls ⟨#[97]⟩ true _ S.out).mono ?_); rintro e w9 ⟨rfl, ⟨nd, rfl⟩⟩) | (go_at_call 53; (with_reducible refine (impl_setOver.calls 2 a b t _ A1.out).mono ?_); rintro e w9 ⟨rfl, ⟨nd2, rfl⟩⟩) | (refine impl_FewestToSet.insert_own _ rfl _ _ _ 61 rfl 9 3 impl_FewestToSet.klaw Tryd.underlying61 _ (w8.heap.size + 1) 0 _ rfl (impl_FewestToSet.own_made _ _ (by simp)) (by decide) _ _ _ rfl rfl KA.out _ [] (plainElem_int Tryd.underlying3 (WalkArith.wf_i64 (by omega))) ?_; intro wA hownA hgrowA; have HOA := Aside0.mk hownA; have HGA := Aside0.mk hgrowA; have BA : Aside0 (wA.heap[w8.heap.size]? = some (.cells #[.string g, .int .i64 a, .int .i64 b, .string o, .int .i64 x, .int .i64 y] 47 (0, 0))) := ⟨(hgrowA.block _ (by simp; omega) (by simp)).trans (blk_alloc (blk_drewN (heap_at _ _ _ rfl) _) _)⟩; clear hownA hgrowA; have ka1 : wA.cell? ⟨w8.heap.size, 1, none⟩ = some (.int .i64 a) := (blk_cell BA.out 1).trans rfl; have ka2 : wA.cell? ⟨w8.heap.size, 2, none⟩ = some (.int .i64 b) := (blk_cell BA.out 2).trans rfl; have ka3 : wA.cell? ⟨w8.heap.size, 3, none⟩ = some (.string o) := (blk_cell BA.out 3).trans rfl) | (refine impl_FewestToSet.insert_own _ rfl _ _ _ 61 rfl 9 3 impl_FewestToSet.klaw Tryd.underlying61 _ (w8.heap.size + 1) 1 _ rfl HOA.out (by decide) _ _ _ rfl rfl KB.out _ [] (plainElem_int Tryd.underlying3 (WalkArith.wf_i64 (by omega))) ?_; intro wB hownB hgrowB; have HOB := Aside0.mk hownB; have HGB := Aside0.mk hgrowB; have BB : Aside0 (wB.heap[w8.heap.size]? = some (.cells #[.string g, .int .i64 a, .int .i64 b, .string o, .int .i64 x, .int .i64 y] 47 (0, 0))) := ⟨(hgrowB.block _ (blk_lt BA.out) (by simp)).trans BA.out⟩; clear hownB hgrowB; have kb1 : wB.cell? ⟨w8.heap.size, 1, none⟩ = some (.int .i64 a) := (blk_cell BB.out 1).trans rfl; have kb2 : wB.cell? ⟨w8.heap.size, 2, none⟩ = some (.int .i64 b) := (blk_cell BB.out 2).trans rfl; have kb3 : wB.cell? ⟨w8.heap.size, 3, none⟩ = some (.string o) := (blk_cell BB.out 3).trans rfl))
        have BW : Below w.heap.size w wB := by
          have b0 := HB.out.size
          have b1 : Below w.heap.size w (((w8.alloc (.cells #[.string g, .int .i64 a, .int .i64 b, .string o, .int .i64 x, .int .i64 y] 47)).drewN (nd + nd2)).alloc (.map #[] 0)) := below_alloc (pw_below_drewN (below_alloc HB.out _) _) _
          have b2 := b1.grown HGA.out b1.size (fun j hj => by cases hj; omega)
          exact b2.grown HGB.out b2.size (fun j hj => by cases hj; omega)
        have HBW := Aside0.mk BW
        have HDB : Aside0 (impl_FewestToSet.Dat ((DataW.put (DataW.map []) (.string [97]) (.lit (.int .i64 a))).put (.string [98]) (.lit (.int .i64 b))) a b) := ⟨((impl_FewestToSet.Dat.putB (x := a) (y := 0) (impl_FewestToSet.Dat.putA (x := 0) (y := 0) ⟨Go.Maps.isMap_empty, rfl, rfl⟩ a) b))⟩
        have hs8 : w.heap.size ≤ w8.heap.size := HB.out.size
        clear BW HB HOA HGA HGB BA BB ka1 ka2 ka3 kb1 kb2 kb3
        go_loopg [10, 11] 20 (fun kq v10 v11 wr => ∃ (need x y : Int) (oo : ByteArray) (D : DataW Unit) (m : Nat), v10 = .int .i64 need ∧ v11 = .string oo ∧ Aside0 (impl_FewestToSet.Dat D x y) ∧ Aside0 ((m : Int) ≤ x + y + 2) ∧ Aside0 (wr.ownsMap Tryd.prog 9 (plainElem Tryd.prog 3) (w8.heap.size + 1) m D) ∧ Aside0 (Below w.heap.size w wr) ∧ Aside0 (impl_FewestToSet.l0 kq ⟨#[97]⟩ need x y oo = some (r1, r2)))
        case atStart => exact ⟨0, a, b, o, _, 2, rfl, rfl, HDB, ⟨by omega⟩, HOB, HBW, V⟩
        case round =>
          obtain ⟨need, x, y, oo, D, m, rfl, rfl, hD, hm, hown, hbl, hf⟩ := hrel
          clear V HOB HBW HDB
          cases gk with
          | zero => exact absurd hf.out (by simp [impl_FewestToSet.l0])
          | succ kq =>
            have H := hf.out
            clear hf
            obtain ⟨x0, x1, y0, y1, e0, e1⟩ := impl_FewestToSet.l0_bd H
            simp only [impl_FewestToSet.l0] at H
            rw [if_pos ⟨x0, x1, y0, y1, e0, e1⟩] at H
            obtain ⟨rt, hrt⟩ : ∃ rt : Int, (if x = 6 ∧ y = 6 then (7 : Int) else 4) = rt := ⟨_, rfl⟩
            rw [hrt] at H
            obtain ⟨⟨p1, p2, p3, p4⟩, AF, H⟩ := Option.bind_eq_some_iff.mp H
            have AF := Aside0.mk AF
            by_cases hp : 0 ≤ p1 ∧ p1 ≤ 1000 ∧ 0 ≤ p2 ∧ p2 ≤ 1000
            · replace H : ((impl_setOver.f 2 (x + 1) y).bind fun t => if t.toList = [97] then some (need + impl_FewestToSet.cost rt p1 p2, true) else impl_FewestToSet.l0 kq ⟨#[97]⟩ (need + impl_FewestToSet.cost rt p1 p2) (x + 1) y ⟨#[]⟩) = some (r1, r2) := by
                rw [if_pos hp] at H
                rw [impl_FewestToSet.l97, if_neg (by decide)] at H; exact H
              replace H := Option.bind_eq_some_iff.mp H
              obtain ⟨t2, A3, H⟩ := H
              have A3 := Aside0.mk A3
              have H := Aside0.mk H
              obtain ⟨q0, q1, q2, q3⟩ := hp
              have hws : Aside0 (w.heap.size ≤ wr.heap.size) := ⟨hbl.out.size⟩
              go_upto_region 12 with (first | (go_at_call 58; (with_reducible refine (impl_tennis.calls 4 2 _ T1.out).mono ?_); rintro e w1 ⟨rfl, hb⟩; have HB1 := Aside0.mk (below_step hbl.out hb); have HO1 := Aside0.mk (impl_FewestToSet.own_below hown.out hb); have hw1 : wr.heap.size ≤ w1.heap.size := hb.size; clear hb))
              (try simp only [Act.put, List.setIfInBounds_toArray, List.set_cons_zero, List.set_cons_succ])
              have hlt1 : Aside0 (w8.heap.size + 1 < w1.heap.size) := ⟨HO1.out.lt⟩
              have hw0 : Aside0 (w.heap.size ≤ w1.heap.size) := ⟨Nat.le_trans hws.out hw1⟩
              go_cut [54] (fun v54 wc => ∃ (tie : Bool), v54 = .bool tie ∧ Aside0 (tie = decide (x = 6 ∧ y = 6)) ∧ Aside0 (wc.heap[w1.heap.size]? = some (.cells #[.int .i64 4, .int .i64 2] 53 (0, 0))) ∧ Aside0 (wc.ownsMap Tryd.prog 9 (plainElem Tryd.prog 3) (w8.heap.size + 1) m D) ∧ Aside0 (Below w.heap.size w wc))
              case first =>
                by_cases hx : x = 6
                · have d1 : (x == 6) = true := beq_iff_eq.2 hx
                  by_cases hy : y = 6
                  · have d2 : (y == 6) = true := beq_iff_eq.2 hy
                    have hd : true = decide (x = 6 ∧ y = 6) := (decide_eq_true ⟨hx, hy⟩).symm
                    have HT := Aside0.mk hd
                    clear hx hy hd hrt
                    obtain ⟨cB, hrunB, hatB, _⟩ := (HO1.out.alloc (.cells #[.int .i64 4, .int .i64 2] 53 (0, 0))).lookup_int impl_FewestToSet.klaw Tryd.underlying61 Tryd.underlying3 (impl_FewestToSet.zero3 _) KB.out
                    obtain rfl := (impl_FewestToSet.int_eq hatB hD.out.at_b).symm
                    clear hatB
                    go_wp2_with (first | (at_lookup; refine wpList_lookup_own_int _ rfl _ _ 61 rfl 9 3 .i64 impl_FewestToSet.klaw Tryd.underlying61 Tryd.underlying3 (impl_FewestToSet.zero3 _) (w8.heap.size + 1) _ _ rfl (HO1.out.alloc _) _ _ rfl KA.out ?_; intro c hat hwc; obtain rfl := (impl_FewestToSet.int_eq hat hD.out.at_a).symm; clear hat hwc))
                    go_meet
                    case rel => exact ⟨true, rfl, HT, ⟨heap_at _ _ _ rfl⟩, ⟨HO1.out.alloc _⟩, ⟨below_alloc HB1.out _⟩⟩
                  · have d2 : (y == 6) = false := beq_eq_false_iff_ne.2 hy
                    have hd : false = decide (x = 6 ∧ y = 6) := (decide_eq_false (fun h => hy h.2)).symm
                    have HT := Aside0.mk hd
                    clear hx hy hd hrt
                    obtain ⟨cB, hrunB, hatB, _⟩ := (HO1.out.alloc (.cells #[.int .i64 4, .int .i64 2] 53 (0, 0))).lookup_int impl_FewestToSet.klaw Tryd.underlying61 Tryd.underlying3 (impl_FewestToSet.zero3 _) KB.out
                    obtain rfl := (impl_FewestToSet.int_eq hatB hD.out.at_b).symm
                    clear hatB
                    go_wp2_with (first | (at_lookup; refine wpList_lookup_own_int _ rfl _ _ 61 rfl 9 3 .i64 impl_FewestToSet.klaw Tryd.underlying61 Tryd.underlying3 (impl_FewestToSet.zero3 _) (w8.heap.size + 1) _ _ rfl (HO1.out.alloc _) _ _ rfl KA.out ?_; intro c hat hwc; obtain rfl := (impl_FewestToSet.int_eq hat hD.out.at_a).symm; clear hat hwc))
                    go_meet
                    case rel => exact ⟨false, rfl, HT, ⟨heap_at _ _ _ rfl⟩, ⟨HO1.out.alloc _⟩, ⟨below_alloc HB1.out _⟩⟩
                · have d1 : (x == 6) = false := beq_eq_false_iff_ne.2 hx
                  have hd : false = decide (x = 6 ∧ y = 6) := (decide_eq_false (fun h => hx h.1)).symm
                  have HT := Aside0.mk hd
                  clear hx hd hrt
                  go_wp2_with (first | (at_lookup; refine wpList_lookup_own_int _ rfl _ _ 61 rfl 9 3 .i64 impl_FewestToSet.klaw Tryd.underlying61 Tryd.underlying3 (impl_FewestToSet.zero3 _) (w8.heap.size + 1) _ _ rfl (HO1.out.alloc _) _ _ rfl KA.out ?_; intro c hat hwc; obtain rfl := (impl_FewestToSet.int_eq hat hD.out.at_a).symm; clear hat hwc))
                  go_meet
                  case rel => exact ⟨false, rfl, HT, ⟨heap_at _ _ _ rfl⟩, ⟨HO1.out.alloc _⟩, ⟨below_alloc HB1.out _⟩⟩
              case rest =>
                obtain ⟨tie, rfl, htie, hbk, ho2, hb2⟩ := hcut
                clear hown hbl HO1 HB1
                go_upto_if 54 with (fail)
                (try simp only [Act.put, List.setIfInBounds_toArray, List.set_cons_zero, List.set_cons_succ])
                go_cut [] (fun wd => Aside0 (wd.heap[w1.heap.size]? = some (.cells #[.int .i64 rt, .int .i64 2] 53 (0, 0))) ∧ Aside0 (wd.ownsMap Tryd.prog 9 (plainElem Tryd.prog 3) (w8.heap.size + 1) m D) ∧ Aside0 (Below w.heap.size w wd))
                case first =>
                  cases tie with
                  | true =>
                    obtain rfl : rt = 7 := by rw [← hrt, if_pos (of_decide_eq_true htie.out.symm)]
                    clear hrt htie
                    go_wp2_with (first | (go_at_call 64; (with_reducible refine (impl_tie.calls 7 2 _ T2.out).mono ?_); rintro e w2 ⟨rfl, hb⟩; have HB2 := Aside0.mk (below_step hb2.out hb); have HO2 := Aside0.mk (impl_FewestToSet.own_below ho2.out hb); have BK2 : Aside0 (w2.heap[w1.heap.size]? = some (.cells #[.int .i64 4, .int .i64 2] 53 (0, 0))) := ⟨blk_below hbk.out hb⟩; clear hb; have j0 := blk_frozen BK2.out 0; have j1 := blk_frozen BK2.out 1; have j2 : w2.cell? ⟨w1.heap.size, 0, none⟩ = some (.int .i64 4) := (blk_cell BK2.out 0).trans rfl; have j3 : w2.cell? ⟨w1.heap.size, 1, none⟩ = some (.int .i64 2) := (blk_cell BK2.out 1).trans rfl))
                    go_meet
                    case rel => exact ⟨⟨blk_put (cs := #[.int .i64 7, .int .i64 2]) (blk_put BK2.out 0 _ rfl) 1 _ rfl⟩, ⟨impl_FewestToSet.own_set (impl_FewestToSet.own_set HO2.out (Nat.ne_of_lt hlt1.out) _) (Nat.ne_of_lt hlt1.out) _⟩, ⟨below_set (below_set HB2.out hw0.out) hw0.out⟩⟩
                  | false =>
                    obtain rfl : rt = 4 := by rw [← hrt, if_neg (of_decide_eq_false htie.out.symm)]
                    clear hrt htie
                    go_wp2
                    go_meet
                    case rel => exact ⟨hbk, ho2, hb2⟩
                case rest =>
                  obtain ⟨hbk3, ho3, hb3⟩ := hcut
                  have hr0 : 4 ≤ rt := by rw [← hrt]; split <;> omega
                  have hr1 : rt ≤ 7 := by rw [← hrt]; split <;> omega
                  clear hbk ho2 hb2 htie hrt
                  have i0 := blk_frozen hbk3.out 0
                  have i1 := blk_frozen hbk3.out 1
                  have i2 : wc.cell? ⟨w1.heap.size, 0, none⟩ = some (.int .i64 rt) := (blk_cell hbk3.out 0).trans rfl
                  have i3 : wc.cell? ⟨w1.heap.size, 1, none⟩ = some (.int .i64 2) := (blk_cell hbk3.out 1).trans rfl
                  go_upto_region 15 with (first | (go_at_call 57; (with_reducible refine (impl_follow.calls rt 2 oo p1 p2 p3 p4 _ AF.out).mono ?_); rintro e w3 ⟨rfl, hb⟩; have HB3 := Aside0.mk (below_step hb3.out hb); have HO3 := Aside0.mk (impl_FewestToSet.own_below ho3.out hb); have BK3 := Aside0.mk (blk_below hbk3.out hb); clear hb))
                  (try simp only [Act.put, List.setIfInBounds_toArray, List.set_cons_zero, List.set_cons_succ])
                  clear hbk3 ho3 hb3 i0 i1 i2 i3
                  go_cut [14, 15] (fun v14 v15 wd => v14 = .int .i64 p1 ∧ v15 = .int .i64 p2 ∧ Aside0 (wd.heap[w3.heap.size]? = some (.cells #[.int .i64 p1, .int .i64 p2, .string p3, .bool p4] 57 (0, 0))) ∧ Aside0 (wd.heap[w1.heap.size]? = some (.cells #[.int .i64 rt, .int .i64 2] 53 (0, 0))) ∧ Aside0 (wd.ownsMap Tryd.prog 9 (plainElem Tryd.prog 3) (w8.heap.size + 1) m D) ∧ Aside0 (Below w.heap.size w wd))
                  case first =>
                    repeat (go_quiet (fail); try go_wp2)
                    go_meet
                    case rel => exact ⟨rfl, rfl, ⟨by (with_reducible repeat (first | refine blk_drewN ?_ _ | refine blk_drew ?_)); exact heap_at _ _ _ rfl⟩, ⟨by (with_reducible repeat (first | refine blk_drewN ?_ _ | refine blk_drew ?_)); exact blk_alloc BK3.out _⟩, ⟨HO3.out.alloc _⟩, ⟨by (with_reducible repeat (first | apply pw_below_drewN | apply below_drew1)); exact below_alloc HB3.out _⟩⟩
                  case rest =>
                    obtain ⟨rfl, rfl, hpk4, hbk4, ho4, hb4⟩ := hcut
                    clear HB3 HO3 BK3
                    have i2 : wc.cell? ⟨w1.heap.size, 0, none⟩ = some (.int .i64 rt) := (blk_cell hbk4.out 0).trans rfl
                    have i3 : wc.cell? ⟨w1.heap.size, 1, none⟩ = some (.int .i64 2) := (blk_cell hbk4.out 1).trans rfl
                    have hD1 := Aside0.mk (hD.out.putA (x + 1))
                    have l1 := impl_FewestToSet.l97
                    have hmb : m < 9223372036854775807 := by have := hm.out; omega
                    obtain ⟨cc, hcc⟩ : ∃ cc : Int, (if rt - p1 < 2 + p2 - p1 then 2 + p2 - p1 else rt - p1) = cc := ⟨_, rfl⟩
                    have hc : impl_FewestToSet.cost rt p1 p2 = cc := hcc
                    have hcb0 : 0 ≤ cc + 1000 := by rw [← hcc]; split <;> omega
                    have hcb1 : cc ≤ 2000 := by rw [← hcc]; split <;> omega
                    have H := H.out
                    rw [hc] at H
                    by_cases hmx : rt - p1 < 2 + p2 - p1
                    · rw [if_pos hmx] at hcc
                      subst hcc
                      by_cases ht2 : t2.toList = [97]
                      · rw [if_pos ht2] at H
                        have c3 : (t2.toList == ([97] : List UInt8)) = true := beq_iff_eq.2 ht2
                        have c4 : (t2.toList == (⟨#[97]⟩ : ByteArray).toList) = true := by rw [l1]; exact c3
                        clear ht2
                        simp only [Option.some.injEq, Prod.mk.injEq] at H
                        obtain ⟨rfl, rfl⟩ := H
                        go_wp2_with (first | (at_lookup; refine wpList_lookup_own_int _ rfl _ _ 61 rfl 9 3 .i64 impl_FewestToSet.klaw Tryd.underlying61 Tryd.underlying3 (impl_FewestToSet.zero3 _) (w8.heap.size + 1) _ _ rfl ho4.out _ _ rfl KA.out ?_; intro c hat hwc; obtain rfl := (impl_FewestToSet.int_eq hat hD.out.at_a).symm; clear hat hwc) | (at_mapUpdate; refine wpList_mapUpdate_own _ rfl _ _ _ 61 rfl 9 3 impl_FewestToSet.klaw Tryd.underlying61 _ (w8.heap.size + 1) m _ rfl ho4.out (by unfold maxLen; omega) _ _ _ rfl rfl KA.out _ [] (plainElem_int Tryd.underlying3 (WalkArith.wf_i64 (by omega))) ?_; intro w5 hown5 hgrow5; have HO5 := Aside0.mk hown5; have HG5 := Aside0.mk hgrow5; clear hown5 hgrow5) | (at_lookup; refine wpList_lookup_own_int _ rfl _ _ 61 rfl 9 3 .i64 impl_FewestToSet.klaw Tryd.underlying61 Tryd.underlying3 (impl_FewestToSet.zero3 _) (w8.heap.size + 1) _ _ rfl HO5.out _ _ rfl KA.out ?_; intro c hat hwc; obtain rfl := (impl_FewestToSet.int_eq hat hD1.out.at_a).symm; clear hat hwc) | (at_lookup; refine wpList_lookup_own_int _ rfl _ _ 61 rfl 9 3 .i64 impl_FewestToSet.klaw Tryd.underlying61 Tryd.underlying3 (impl_FewestToSet.zero3 _) (w8.heap.size + 1) _ _ rfl HO5.out _ _ rfl KB.out ?_; intro c hat hwc; obtain rfl := (impl_FewestToSet.int_eq hat hD1.out.at_b).symm; clear hat hwc) | (go_at_call 53; (with_reducible refine (impl_setOver.calls 2 (x + 1) (y) t2 _ A3.out).mono ?_); rintro e w9 ⟨rfl, ⟨nd3, rfl⟩⟩))
                        go_ret2
                        exact ⟨rfl, pw_below_drewN (hb4.out.grown HG5.out hb4.out.size (fun j hj => by cases hj; omega)) _⟩
                      · rw [if_neg ht2] at H
                        have c3 : (t2.toList == ([97] : List UInt8)) = false := beq_eq_false_iff_ne.2 ht2
                        have c4 : (t2.toList == (⟨#[97]⟩ : ByteArray).toList) = false := by rw [l1]; exact c3
                        clear ht2
                        have H := Aside0.mk H
                        go_wp2_with (first | (at_lookup; refine wpList_lookup_own_int _ rfl _ _ 61 rfl 9 3 .i64 impl_FewestToSet.klaw Tryd.underlying61 Tryd.underlying3 (impl_FewestToSet.zero3 _) (w8.heap.size + 1) _ _ rfl ho4.out _ _ rfl KA.out ?_; intro c hat hwc; obtain rfl := (impl_FewestToSet.int_eq hat hD.out.at_a).symm; clear hat hwc) | (at_mapUpdate; refine wpList_mapUpdate_own _ rfl _ _ _ 61 rfl 9 3 impl_FewestToSet.klaw Tryd.underlying61 _ (w8.heap.size + 1) m _ rfl ho4.out (by unfold maxLen; omega) _ _ _ rfl rfl KA.out _ [] (plainElem_int Tryd.underlying3 (WalkArith.wf_i64 (by omega))) ?_; intro w5 hown5 hgrow5; have HO5 := Aside0.mk hown5; have HG5 := Aside0.mk hgrow5; clear hown5 hgrow5) | (at_lookup; refine wpList_lookup_own_int _ rfl _ _ 61 rfl 9 3 .i64 impl_FewestToSet.klaw Tryd.underlying61 Tryd.underlying3 (impl_FewestToSet.zero3 _) (w8.heap.size + 1) _ _ rfl HO5.out _ _ rfl KA.out ?_; intro c hat hwc; obtain rfl := (impl_FewestToSet.int_eq hat hD1.out.at_a).symm; clear hat hwc) | (at_lookup; refine wpList_lookup_own_int _ rfl _ _ 61 rfl 9 3 .i64 impl_FewestToSet.klaw Tryd.underlying61 Tryd.underlying3 (impl_FewestToSet.zero3 _) (w8.heap.size + 1) _ _ rfl HO5.out _ _ rfl KB.out ?_; intro c hat hwc; obtain rfl := (impl_FewestToSet.int_eq hat hD1.out.at_b).symm; clear hat hwc) | (go_at_call 53; (with_reducible refine (impl_setOver.calls 2 (x + 1) (y) t2 _ A3.out).mono ?_); rintro e w9 ⟨rfl, ⟨nd3, rfl⟩⟩))
                        go_roundg kq
                        case measure => omega
                        case rel => exact ⟨_, x + 1, y, ⟨#[]⟩, _, m + 1, rfl, rfl, hD1, ⟨by have := hm.out; omega⟩, HO5, ⟨pw_below_drewN (hb4.out.grown HG5.out hb4.out.size (fun j hj => by cases hj; omega)) _⟩, H⟩
                    · rw [if_neg hmx] at hcc
                      subst hcc
                      by_cases ht2 : t2.toList = [97]
                      · rw [if_pos ht2] at H
                        have c3 : (t2.toList == ([97] : List UInt8)) = true := beq_iff_eq.2 ht2
                        have c4 : (t2.toList == (⟨#[97]⟩ : ByteArray).toList) = true := by rw [l1]; exact c3
                        clear ht2
                        simp only [Option.some.injEq, Prod.mk.injEq] at H
                        obtain ⟨rfl, rfl⟩ := H
                        go_wp2_with (first | (at_lookup; refine wpList_lookup_own_int _ rfl _ _ 61 rfl 9 3 .i64 impl_FewestToSet.klaw Tryd.underlying61 Tryd.underlying3 (impl_FewestToSet.zero3 _) (w8.heap.size + 1) _ _ rfl ho4.out _ _ rfl KA.out ?_; intro c hat hwc; obtain rfl := (impl_FewestToSet.int_eq hat hD.out.at_a).symm; clear hat hwc) | (at_mapUpdate; refine wpList_mapUpdate_own _ rfl _ _ _ 61 rfl 9 3 impl_FewestToSet.klaw Tryd.underlying61 _ (w8.heap.size + 1) m _ rfl ho4.out (by unfold maxLen; omega) _ _ _ rfl rfl KA.out _ [] (plainElem_int Tryd.underlying3 (WalkArith.wf_i64 (by omega))) ?_; intro w5 hown5 hgrow5; have HO5 := Aside0.mk hown5; have HG5 := Aside0.mk hgrow5; clear hown5 hgrow5) | (at_lookup; refine wpList_lookup_own_int _ rfl _ _ 61 rfl 9 3 .i64 impl_FewestToSet.klaw Tryd.underlying61 Tryd.underlying3 (impl_FewestToSet.zero3 _) (w8.heap.size + 1) _ _ rfl HO5.out _ _ rfl KA.out ?_; intro c hat hwc; obtain rfl := (impl_FewestToSet.int_eq hat hD1.out.at_a).symm; clear hat hwc) | (at_lookup; refine wpList_lookup_own_int _ rfl _ _ 61 rfl 9 3 .i64 impl_FewestToSet.klaw Tryd.underlying61 Tryd.underlying3 (impl_FewestToSet.zero3 _) (w8.heap.size + 1) _ _ rfl HO5.out _ _ rfl KB.out ?_; intro c hat hwc; obtain rfl := (impl_FewestToSet.int_eq hat hD1.out.at_b).symm; clear hat hwc) | (go_at_call 53; (with_reducible refine (impl_setOver.calls 2 (x + 1) (y) t2 _ A3.out).mono ?_); rintro e w9 ⟨rfl, ⟨nd3, rfl⟩⟩))
                        go_ret2
                        exact ⟨rfl, pw_below_drewN (hb4.out.grown HG5.out hb4.out.size (fun j hj => by cases hj; omega)) _⟩
                      · rw [if_neg ht2] at H
                        have c3 : (t2.toList == ([97] : List UInt8)) = false := beq_eq_false_iff_ne.2 ht2
                        have c4 : (t2.toList == (⟨#[97]⟩ : ByteArray).toList) = false := by rw [l1]; exact c3
                        clear ht2
                        have H := Aside0.mk H
                        go_wp2_with (first | (at_lookup; refine wpList_lookup_own_int _ rfl _ _ 61 rfl 9 3 .i64 impl_FewestToSet.klaw Tryd.underlying61 Tryd.underlying3 (impl_FewestToSet.zero3 _) (w8.heap.size + 1) _ _ rfl ho4.out _ _ rfl KA.out ?_; intro c hat hwc; obtain rfl := (impl_FewestToSet.int_eq hat hD.out.at_a).symm; clear hat hwc) | (at_mapUpdate; refine wpList_mapUpdate_own _ rfl _ _ _ 61 rfl 9 3 impl_FewestToSet.klaw Tryd.underlying61 _ (w8.heap.size + 1) m _ rfl ho4.out (by unfold maxLen; omega) _ _ _ rfl rfl KA.out _ [] (plainElem_int Tryd.underlying3 (WalkArith.wf_i64 (by omega))) ?_; intro w5 hown5 hgrow5; have HO5 := Aside0.mk hown5; have HG5 := Aside0.mk hgrow5; clear hown5 hgrow5) | (at_lookup; refine wpList_lookup_own_int _ rfl _ _ 61 rfl 9 3 .i64 impl_FewestToSet.klaw Tryd.underlying61 Tryd.underlying3 (impl_FewestToSet.zero3 _) (w8.heap.size + 1) _ _ rfl HO5.out _ _ rfl KA.out ?_; intro c hat hwc; obtain rfl := (impl_FewestToSet.int_eq hat hD1.out.at_a).symm; clear hat hwc) | (at_lookup; refine wpList_lookup_own_int _ rfl _ _ 61 rfl 9 3 .i64 impl_FewestToSet.klaw Tryd.underlying61 Tryd.underlying3 (impl_FewestToSet.zero3 _) (w8.heap.size + 1) _ _ rfl HO5.out _ _ rfl KB.out ?_; intro c hat hwc; obtain rfl := (impl_FewestToSet.int_eq hat hD1.out.at_b).symm; clear hat hwc) | (go_at_call 53; (with_reducible refine (impl_setOver.calls 2 (x + 1) (y) t2 _ A3.out).mono ?_); rintro e w9 ⟨rfl, ⟨nd3, rfl⟩⟩))
                        go_roundg kq
                        case measure => omega
                        case rel => exact ⟨_, x + 1, y, ⟨#[]⟩, _, m + 1, rfl, rfl, hD1, ⟨by have := hm.out; omega⟩, HO5, ⟨pw_below_drewN (hb4.out.grown HG5.out hb4.out.size (fun j hj => by cases hj; omega)) _⟩, H⟩
            · rw [if_neg hp] at H
              cases H
      · rw [if_neg ht] at H
        have c1 : (t.toList == ([45] : List UInt8)) = false := beq_eq_false_iff_ne.2 ht
        have c2 : (t.toList != ([45] : List UInt8)) = true := bne_iff_ne.2 ht
        clear ht
        simp only [Option.some.injEq, Prod.mk.injEq] at H
        obtain ⟨rfl, rfl⟩ := H
        have l1 := impl_FewestToSet.l97
        go_enter Tryd.func36, Tryd.ntmps36
        go_wp2_with (first | (go_at_call 52; (with_reducible refine (impl_readSet.calls a0 g a b o x y true _ A0.out).mono ?_); rintro e w8 ⟨rfl, hb⟩; have HB := Aside0.mk hb; clear hb) | (go_at_call 63; (with_reducible refine (impl_isSide.calls ⟨#[97]⟩ true _ S.out).mono ?_); rintro e w9 ⟨rfl, ⟨nd, rfl⟩⟩) | (go_at_call 53; (with_reducible refine (impl_setOver.calls 2 a b t _ A1.out).mono ?_); rintro e w9 ⟨rfl, ⟨nd2, rfl⟩⟩))
        go_ret2
        exact ⟨by first | rfl | simp [l1], pw_below_drewN (below_alloc HB.out _) _⟩
    · by_cases hB : a1.toList = [98]
      · rw [if_pos (.inr hB)] at H
        obtain rfl := impl_FewestToSet.byt hB
        clear hA hB
        have S : Aside0 (impl_isSide.f ⟨#[98]⟩ = some true) := ⟨by unfold impl_isSide.f; rw [impl_FewestToSet.l98]; rfl⟩
        replace H := Option.bind_eq_some_iff.mp H
        obtain ⟨t, A1, H⟩ := H
        have A1 := Aside0.mk A1
        by_cases ht : t.toList = [45]
        · rw [if_pos ht] at H
          have c1 : (t.toList == ([45] : List UInt8)) = true := beq_iff_eq.2 ht
          have c2 : (t.toList != ([45] : List UInt8)) = false := bne_eq_false_iff_eq.2 ht
          clear ht
          obtain ⟨bd0, bd1, bd2, bd3, _, _⟩ := impl_FewestToSet.l0_bd H
          have V := Aside0.mk H
          clear H
          have T1 : Aside0 (impl_tennis.f = some (4, 2)) := ⟨rfl⟩
          have T2 : Aside0 (impl_tie.f = some (7, 2)) := ⟨rfl⟩
          have KA := Lib.hid (show keyOf Tryd.prog 9 (.string ⟨#[97]⟩) = some (.string [97]) from Go.WideMaps.keyOf_string_mk Tryd.underlying9 (by decide))
          have KB := Lib.hid (show keyOf Tryd.prog 9 (.string ⟨#[98]⟩) = some (.string [98]) from Go.WideMaps.keyOf_string_mk Tryd.underlying9 (by decide))
          go_enter Tryd.func36, Tryd.ntmps36
          go_wp2_with (first | (go_at_call 52; (with_reducible refine (impl_readSet.calls a0 g a b o x y true _ A0.out).mono ?_); rintro e w8 ⟨rfl, hb⟩; have HB := Aside0.mk hb; clear hb) | (go_at_call 63; (with_reducible refine (impl_isSide.calls ⟨#[98]⟩ true _ S.out).mono ?_); rintro e w9 ⟨rfl, ⟨nd, rfl⟩⟩) | (go_at_call 53; (with_reducible refine (impl_setOver.calls 2 a b t _ A1.out).mono ?_); rintro e w9 ⟨rfl, ⟨nd2, rfl⟩⟩) | (refine impl_FewestToSet.insert_own _ rfl _ _ _ 61 rfl 9 3 impl_FewestToSet.klaw Tryd.underlying61 _ (w8.heap.size + 1) 0 _ rfl (impl_FewestToSet.own_made _ _ (by simp)) (by decide) _ _ _ rfl rfl KA.out _ [] (plainElem_int Tryd.underlying3 (WalkArith.wf_i64 (by omega))) ?_; intro wA hownA hgrowA; have HOA := Aside0.mk hownA; have HGA := Aside0.mk hgrowA; have BA : Aside0 (wA.heap[w8.heap.size]? = some (.cells #[.string g, .int .i64 a, .int .i64 b, .string o, .int .i64 x, .int .i64 y] 47 (0, 0))) := ⟨(hgrowA.block _ (by simp; omega) (by simp)).trans (blk_alloc (blk_drewN (heap_at _ _ _ rfl) _) _)⟩; clear hownA hgrowA; have ka1 : wA.cell? ⟨w8.heap.size, 1, none⟩ = some (.int .i64 a) := (blk_cell BA.out 1).trans rfl; have ka2 : wA.cell? ⟨w8.heap.size, 2, none⟩ = some (.int .i64 b) := (blk_cell BA.out 2).trans rfl; have ka3 : wA.cell? ⟨w8.heap.size, 3, none⟩ = some (.string o) := (blk_cell BA.out 3).trans rfl) | (refine impl_FewestToSet.insert_own _ rfl _ _ _ 61 rfl 9 3 impl_FewestToSet.klaw Tryd.underlying61 _ (w8.heap.size + 1) 1 _ rfl HOA.out (by decide) _ _ _ rfl rfl KB.out _ [] (plainElem_int Tryd.underlying3 (WalkArith.wf_i64 (by omega))) ?_; intro wB hownB hgrowB; have HOB := Aside0.mk hownB; have HGB := Aside0.mk hgrowB; have BB : Aside0 (wB.heap[w8.heap.size]? = some (.cells #[.string g, .int .i64 a, .int .i64 b, .string o, .int .i64 x, .int .i64 y] 47 (0, 0))) := ⟨(hgrowB.block _ (blk_lt BA.out) (by simp)).trans BA.out⟩; clear hownB hgrowB; have kb1 : wB.cell? ⟨w8.heap.size, 1, none⟩ = some (.int .i64 a) := (blk_cell BB.out 1).trans rfl; have kb2 : wB.cell? ⟨w8.heap.size, 2, none⟩ = some (.int .i64 b) := (blk_cell BB.out 2).trans rfl; have kb3 : wB.cell? ⟨w8.heap.size, 3, none⟩ = some (.string o) := (blk_cell BB.out 3).trans rfl))
          have BW : Below w.heap.size w wB := by
            have b0 := HB.out.size
            have b1 : Below w.heap.size w (((w8.alloc (.cells #[.string g, .int .i64 a, .int .i64 b, .string o, .int .i64 x, .int .i64 y] 47)).drewN (nd + nd2)).alloc (.map #[] 0)) := below_alloc (pw_below_drewN (below_alloc HB.out _) _) _
            have b2 := b1.grown HGA.out b1.size (fun j hj => by cases hj; omega)
            exact b2.grown HGB.out b2.size (fun j hj => by cases hj; omega)
          have HBW := Aside0.mk BW
          have HDB : Aside0 (impl_FewestToSet.Dat ((DataW.put (DataW.map []) (.string [97]) (.lit (.int .i64 a))).put (.string [98]) (.lit (.int .i64 b))) a b) := ⟨((impl_FewestToSet.Dat.putB (x := a) (y := 0) (impl_FewestToSet.Dat.putA (x := 0) (y := 0) ⟨Go.Maps.isMap_empty, rfl, rfl⟩ a) b))⟩
          have hs8 : w.heap.size ≤ w8.heap.size := HB.out.size
          clear BW HB HOA HGA HGB BA BB ka1 ka2 ka3 kb1 kb2 kb3
          go_loopg [10, 11] 20 (fun kq v10 v11 wr => ∃ (need x y : Int) (oo : ByteArray) (D : DataW Unit) (m : Nat), v10 = .int .i64 need ∧ v11 = .string oo ∧ Aside0 (impl_FewestToSet.Dat D x y) ∧ Aside0 ((m : Int) ≤ x + y + 2) ∧ Aside0 (wr.ownsMap Tryd.prog 9 (plainElem Tryd.prog 3) (w8.heap.size + 1) m D) ∧ Aside0 (Below w.heap.size w wr) ∧ Aside0 (impl_FewestToSet.l0 kq ⟨#[98]⟩ need x y oo = some (r1, r2)))
          case atStart => exact ⟨0, a, b, o, _, 2, rfl, rfl, HDB, ⟨by omega⟩, HOB, HBW, V⟩
          case round =>
            obtain ⟨need, x, y, oo, D, m, rfl, rfl, hD, hm, hown, hbl, hf⟩ := hrel
            clear V HOB HBW HDB
            cases gk with
            | zero => exact absurd hf.out (by simp [impl_FewestToSet.l0])
            | succ kq =>
              have H := hf.out
              clear hf
              obtain ⟨x0, x1, y0, y1, e0, e1⟩ := impl_FewestToSet.l0_bd H
              simp only [impl_FewestToSet.l0] at H
              rw [if_pos ⟨x0, x1, y0, y1, e0, e1⟩] at H
              obtain ⟨rt, hrt⟩ : ∃ rt : Int, (if x = 6 ∧ y = 6 then (7 : Int) else 4) = rt := ⟨_, rfl⟩
              rw [hrt] at H
              obtain ⟨⟨p1, p2, p3, p4⟩, AF, H⟩ := Option.bind_eq_some_iff.mp H
              have AF := Aside0.mk AF
              by_cases hp : 0 ≤ p1 ∧ p1 ≤ 1000 ∧ 0 ≤ p2 ∧ p2 ≤ 1000
              · replace H : ((impl_setOver.f 2 x (y + 1)).bind fun t => if t.toList = [98] then some (need + impl_FewestToSet.cost rt p2 p1, true) else impl_FewestToSet.l0 kq ⟨#[98]⟩ (need + impl_FewestToSet.cost rt p2 p1) x (y + 1) ⟨#[]⟩) = some (r1, r2) := by
                  rw [if_pos hp] at H
                  rw [impl_FewestToSet.l98, if_pos rfl] at H; exact H
                replace H := Option.bind_eq_some_iff.mp H
                obtain ⟨t2, A3, H⟩ := H
                have A3 := Aside0.mk A3
                have H := Aside0.mk H
                obtain ⟨q0, q1, q2, q3⟩ := hp
                have hws : Aside0 (w.heap.size ≤ wr.heap.size) := ⟨hbl.out.size⟩
                go_upto_region 12 with (first | (go_at_call 58; (with_reducible refine (impl_tennis.calls 4 2 _ T1.out).mono ?_); rintro e w1 ⟨rfl, hb⟩; have HB1 := Aside0.mk (below_step hbl.out hb); have HO1 := Aside0.mk (impl_FewestToSet.own_below hown.out hb); have hw1 : wr.heap.size ≤ w1.heap.size := hb.size; clear hb))
                (try simp only [Act.put, List.setIfInBounds_toArray, List.set_cons_zero, List.set_cons_succ])
                have hlt1 : Aside0 (w8.heap.size + 1 < w1.heap.size) := ⟨HO1.out.lt⟩
                have hw0 : Aside0 (w.heap.size ≤ w1.heap.size) := ⟨Nat.le_trans hws.out hw1⟩
                go_cut [54] (fun v54 wc => ∃ (tie : Bool), v54 = .bool tie ∧ Aside0 (tie = decide (x = 6 ∧ y = 6)) ∧ Aside0 (wc.heap[w1.heap.size]? = some (.cells #[.int .i64 4, .int .i64 2] 53 (0, 0))) ∧ Aside0 (wc.ownsMap Tryd.prog 9 (plainElem Tryd.prog 3) (w8.heap.size + 1) m D) ∧ Aside0 (Below w.heap.size w wc))
                case first =>
                  by_cases hx : x = 6
                  · have d1 : (x == 6) = true := beq_iff_eq.2 hx
                    by_cases hy : y = 6
                    · have d2 : (y == 6) = true := beq_iff_eq.2 hy
                      have hd : true = decide (x = 6 ∧ y = 6) := (decide_eq_true ⟨hx, hy⟩).symm
                      have HT := Aside0.mk hd
                      clear hx hy hd hrt
                      obtain ⟨cB, hrunB, hatB, _⟩ := (HO1.out.alloc (.cells #[.int .i64 4, .int .i64 2] 53 (0, 0))).lookup_int impl_FewestToSet.klaw Tryd.underlying61 Tryd.underlying3 (impl_FewestToSet.zero3 _) KB.out
                      obtain rfl := (impl_FewestToSet.int_eq hatB hD.out.at_b).symm
                      clear hatB
                      go_wp2_with (first | (at_lookup; refine wpList_lookup_own_int _ rfl _ _ 61 rfl 9 3 .i64 impl_FewestToSet.klaw Tryd.underlying61 Tryd.underlying3 (impl_FewestToSet.zero3 _) (w8.heap.size + 1) _ _ rfl (HO1.out.alloc _) _ _ rfl KA.out ?_; intro c hat hwc; obtain rfl := (impl_FewestToSet.int_eq hat hD.out.at_a).symm; clear hat hwc))
                      go_meet
                      case rel => exact ⟨true, rfl, HT, ⟨heap_at _ _ _ rfl⟩, ⟨HO1.out.alloc _⟩, ⟨below_alloc HB1.out _⟩⟩
                    · have d2 : (y == 6) = false := beq_eq_false_iff_ne.2 hy
                      have hd : false = decide (x = 6 ∧ y = 6) := (decide_eq_false (fun h => hy h.2)).symm
                      have HT := Aside0.mk hd
                      clear hx hy hd hrt
                      obtain ⟨cB, hrunB, hatB, _⟩ := (HO1.out.alloc (.cells #[.int .i64 4, .int .i64 2] 53 (0, 0))).lookup_int impl_FewestToSet.klaw Tryd.underlying61 Tryd.underlying3 (impl_FewestToSet.zero3 _) KB.out
                      obtain rfl := (impl_FewestToSet.int_eq hatB hD.out.at_b).symm
                      clear hatB
                      go_wp2_with (first | (at_lookup; refine wpList_lookup_own_int _ rfl _ _ 61 rfl 9 3 .i64 impl_FewestToSet.klaw Tryd.underlying61 Tryd.underlying3 (impl_FewestToSet.zero3 _) (w8.heap.size + 1) _ _ rfl (HO1.out.alloc _) _ _ rfl KA.out ?_; intro c hat hwc; obtain rfl := (impl_FewestToSet.int_eq hat hD.out.at_a).symm; clear hat hwc))
                      go_meet
                      case rel => exact ⟨false, rfl, HT, ⟨heap_at _ _ _ rfl⟩, ⟨HO1.out.alloc _⟩, ⟨below_alloc HB1.out _⟩⟩
                  · have d1 : (x == 6) = false := beq_eq_false_iff_ne.2 hx
                    have hd : false = decide (x = 6 ∧ y = 6) := (decide_eq_false (fun h => hx h.1)).symm
                    have HT := Aside0.mk hd
                    clear hx hd hrt
                    go_wp2_with (first | (at_lookup; refine wpList_lookup_own_int _ rfl _ _ 61 rfl 9 3 .i64 impl_FewestToSet.klaw Tryd.underlying61 Tryd.underlying3 (impl_FewestToSet.zero3 _) (w8.heap.size + 1) _ _ rfl (HO1.out.alloc _) _ _ rfl KA.out ?_; intro c hat hwc; obtain rfl := (impl_FewestToSet.int_eq hat hD.out.at_a).symm; clear hat hwc))
                    go_meet
                    case rel => exact ⟨false, rfl, HT, ⟨heap_at _ _ _ rfl⟩, ⟨HO1.out.alloc _⟩, ⟨below_alloc HB1.out _⟩⟩
                case rest =>
                  obtain ⟨tie, rfl, htie, hbk, ho2, hb2⟩ := hcut
                  clear hown hbl HO1 HB1
                  go_upto_if 54 with (fail)
                  (try simp only [Act.put, List.setIfInBounds_toArray, List.set_cons_zero, List.set_cons_succ])
                  go_cut [] (fun wd => Aside0 (wd.heap[w1.heap.size]? = some (.cells #[.int .i64 rt, .int .i64 2] 53 (0, 0))) ∧ Aside0 (wd.ownsMap Tryd.prog 9 (plainElem Tryd.prog 3) (w8.heap.size + 1) m D) ∧ Aside0 (Below w.heap.size w wd))
                  case first =>
                    cases tie with
                    | true =>
                      obtain rfl : rt = 7 := by rw [← hrt, if_pos (of_decide_eq_true htie.out.symm)]
                      clear hrt htie
                      go_wp2_with (first | (go_at_call 64; (with_reducible refine (impl_tie.calls 7 2 _ T2.out).mono ?_); rintro e w2 ⟨rfl, hb⟩; have HB2 := Aside0.mk (below_step hb2.out hb); have HO2 := Aside0.mk (impl_FewestToSet.own_below ho2.out hb); have BK2 : Aside0 (w2.heap[w1.heap.size]? = some (.cells #[.int .i64 4, .int .i64 2] 53 (0, 0))) := ⟨blk_below hbk.out hb⟩; clear hb; have j0 := blk_frozen BK2.out 0; have j1 := blk_frozen BK2.out 1; have j2 : w2.cell? ⟨w1.heap.size, 0, none⟩ = some (.int .i64 4) := (blk_cell BK2.out 0).trans rfl; have j3 : w2.cell? ⟨w1.heap.size, 1, none⟩ = some (.int .i64 2) := (blk_cell BK2.out 1).trans rfl))
                      go_meet
                      case rel => exact ⟨⟨blk_put (cs := #[.int .i64 7, .int .i64 2]) (blk_put BK2.out 0 _ rfl) 1 _ rfl⟩, ⟨impl_FewestToSet.own_set (impl_FewestToSet.own_set HO2.out (Nat.ne_of_lt hlt1.out) _) (Nat.ne_of_lt hlt1.out) _⟩, ⟨below_set (below_set HB2.out hw0.out) hw0.out⟩⟩
                    | false =>
                      obtain rfl : rt = 4 := by rw [← hrt, if_neg (of_decide_eq_false htie.out.symm)]
                      clear hrt htie
                      go_wp2
                      go_meet
                      case rel => exact ⟨hbk, ho2, hb2⟩
                  case rest =>
                    obtain ⟨hbk3, ho3, hb3⟩ := hcut
                    have hr0 : 4 ≤ rt := by rw [← hrt]; split <;> omega
                    have hr1 : rt ≤ 7 := by rw [← hrt]; split <;> omega
                    clear hbk ho2 hb2 htie hrt
                    have i0 := blk_frozen hbk3.out 0
                    have i1 := blk_frozen hbk3.out 1
                    have i2 : wc.cell? ⟨w1.heap.size, 0, none⟩ = some (.int .i64 rt) := (blk_cell hbk3.out 0).trans rfl
                    have i3 : wc.cell? ⟨w1.heap.size, 1, none⟩ = some (.int .i64 2) := (blk_cell hbk3.out 1).trans rfl
                    go_upto_region 15 with (first | (go_at_call 57; (with_reducible refine (impl_follow.calls rt 2 oo p1 p2 p3 p4 _ AF.out).mono ?_); rintro e w3 ⟨rfl, hb⟩; have HB3 := Aside0.mk (below_step hb3.out hb); have HO3 := Aside0.mk (impl_FewestToSet.own_below ho3.out hb); have BK3 := Aside0.mk (blk_below hbk3.out hb); clear hb))
                    (try simp only [Act.put, List.setIfInBounds_toArray, List.set_cons_zero, List.set_cons_succ])
                    clear hbk3 ho3 hb3 i0 i1 i2 i3
                    go_cut [14, 15] (fun v14 v15 wd => v14 = .int .i64 p1 ∧ v15 = .int .i64 p2 ∧ Aside0 (wd.heap[w3.heap.size]? = some (.cells #[.int .i64 p1, .int .i64 p2, .string p3, .bool p4] 57 (0, 0))) ∧ Aside0 (wd.heap[w1.heap.size]? = some (.cells #[.int .i64 rt, .int .i64 2] 53 (0, 0))) ∧ Aside0 (wd.ownsMap Tryd.prog 9 (plainElem Tryd.prog 3) (w8.heap.size + 1) m D) ∧ Aside0 (Below w.heap.size w wd))
                    case first =>
                      repeat (go_quiet (fail); try go_wp2)
                      go_meet
                      case rel => exact ⟨rfl, rfl, ⟨by (with_reducible repeat (first | refine blk_drewN ?_ _ | refine blk_drew ?_)); exact heap_at _ _ _ rfl⟩, ⟨by (with_reducible repeat (first | refine blk_drewN ?_ _ | refine blk_drew ?_)); exact blk_alloc BK3.out _⟩, ⟨HO3.out.alloc _⟩, ⟨by (with_reducible repeat (first | apply pw_below_drewN | apply below_drew1)); exact below_alloc HB3.out _⟩⟩
                    case rest =>
                      obtain ⟨rfl, rfl, hpk4, hbk4, ho4, hb4⟩ := hcut
                      clear HB3 HO3 BK3
                      have k2 : wc.cell? ⟨w3.heap.size, 0, none⟩ = some (.int .i64 p1) := (blk_cell hpk4.out 0).trans rfl
                      have k3 : wc.cell? ⟨w3.heap.size, 1, none⟩ = some (.int .i64 p2) := (blk_cell hpk4.out 1).trans rfl
                      go_upto_region 17 with (fail)
                      (try simp only [Act.put, List.setIfInBounds_toArray, List.set_cons_zero, List.set_cons_succ])
                      go_cut [14, 15] (fun v14 v15 wd => v14 = .int .i64 p2 ∧ v15 = .int .i64 p1 ∧ Aside0 (wd.heap[w1.heap.size]? = some (.cells #[.int .i64 rt, .int .i64 2] 53 (0, 0))) ∧ Aside0 (wd.ownsMap Tryd.prog 9 (plainElem Tryd.prog 3) (w8.heap.size + 1) m D) ∧ Aside0 (Below w.heap.size w wd))
                      case first =>
                        repeat (go_quiet (fail); try go_wp2)
                        go_meet
                        case rel => exact ⟨rfl, rfl, ⟨by (with_reducible repeat (first | refine blk_drewN ?_ _ | refine blk_drew ?_)); exact hbk4.out⟩, ⟨ho4.out⟩, ⟨by (with_reducible repeat (first | apply pw_below_drewN | apply below_drew1)); exact hb4.out⟩⟩
                      case' rest =>
                        clear hpk4 hbk4 ho4 hb4 k2 k3
                        obtain ⟨rfl, rfl, hbk4, ho4, hb4⟩ := hcut
                      have i2 : wc.cell? ⟨w1.heap.size, 0, none⟩ = some (.int .i64 rt) := (blk_cell hbk4.out 0).trans rfl
                      have i3 : wc.cell? ⟨w1.heap.size, 1, none⟩ = some (.int .i64 2) := (blk_cell hbk4.out 1).trans rfl
                      have hD1 := Aside0.mk (hD.out.putB (y + 1))
                      have l1 := impl_FewestToSet.l98
                      have hmb : m < 9223372036854775807 := by have := hm.out; omega
                      obtain ⟨cc, hcc⟩ : ∃ cc : Int, (if rt - p2 < 2 + p1 - p2 then 2 + p1 - p2 else rt - p2) = cc := ⟨_, rfl⟩
                      have hc : impl_FewestToSet.cost rt p2 p1 = cc := hcc
                      have hcb0 : 0 ≤ cc + 1000 := by rw [← hcc]; split <;> omega
                      have hcb1 : cc ≤ 2000 := by rw [← hcc]; split <;> omega
                      have H := H.out
                      rw [hc] at H
                      by_cases hmx : rt - p2 < 2 + p1 - p2
                      · rw [if_pos hmx] at hcc
                        subst hcc
                        by_cases ht2 : t2.toList = [98]
                        · rw [if_pos ht2] at H
                          have c3 : (t2.toList == ([98] : List UInt8)) = true := beq_iff_eq.2 ht2
                          have c4 : (t2.toList == (⟨#[98]⟩ : ByteArray).toList) = true := by rw [l1]; exact c3
                          clear ht2
                          simp only [Option.some.injEq, Prod.mk.injEq] at H
                          obtain ⟨rfl, rfl⟩ := H
                          go_wp2_with (first | (at_lookup; refine wpList_lookup_own_int _ rfl _ _ 61 rfl 9 3 .i64 impl_FewestToSet.klaw Tryd.underlying61 Tryd.underlying3 (impl_FewestToSet.zero3 _) (w8.heap.size + 1) _ _ rfl ho4.out _ _ rfl KB.out ?_; intro c hat hwc; obtain rfl := (impl_FewestToSet.int_eq hat hD.out.at_b).symm; clear hat hwc) | (at_mapUpdate; refine wpList_mapUpdate_own _ rfl _ _ _ 61 rfl 9 3 impl_FewestToSet.klaw Tryd.underlying61 _ (w8.heap.size + 1) m _ rfl ho4.out (by unfold maxLen; omega) _ _ _ rfl rfl KB.out _ [] (plainElem_int Tryd.underlying3 (WalkArith.wf_i64 (by omega))) ?_; intro w5 hown5 hgrow5; have HO5 := Aside0.mk hown5; have HG5 := Aside0.mk hgrow5; clear hown5 hgrow5) | (at_lookup; refine wpList_lookup_own_int _ rfl _ _ 61 rfl 9 3 .i64 impl_FewestToSet.klaw Tryd.underlying61 Tryd.underlying3 (impl_FewestToSet.zero3 _) (w8.heap.size + 1) _ _ rfl HO5.out _ _ rfl KA.out ?_; intro c hat hwc; obtain rfl := (impl_FewestToSet.int_eq hat hD1.out.at_a).symm; clear hat hwc) | (at_lookup; refine wpList_lookup_own_int _ rfl _ _ 61 rfl 9 3 .i64 impl_FewestToSet.klaw Tryd.underlying61 Tryd.underlying3 (impl_FewestToSet.zero3 _) (w8.heap.size + 1) _ _ rfl HO5.out _ _ rfl KB.out ?_; intro c hat hwc; obtain rfl := (impl_FewestToSet.int_eq hat hD1.out.at_b).symm; clear hat hwc) | (go_at_call 53; (with_reducible refine (impl_setOver.calls 2 (x) (y + 1) t2 _ A3.out).mono ?_); rintro e w9 ⟨rfl, ⟨nd3, rfl⟩⟩))
                          go_ret2
                          exact ⟨rfl, pw_below_drewN (hb4.out.grown HG5.out hb4.out.size (fun j hj => by cases hj; omega)) _⟩
                        · rw [if_neg ht2] at H
                          have c3 : (t2.toList == ([98] : List UInt8)) = false := beq_eq_false_iff_ne.2 ht2
                          have c4 : (t2.toList == (⟨#[98]⟩ : ByteArray).toList) = false := by rw [l1]; exact c3
                          clear ht2
                          have H := Aside0.mk H
                          go_wp2_with (first | (at_lookup; refine wpList_lookup_own_int _ rfl _ _ 61 rfl 9 3 .i64 impl_FewestToSet.klaw Tryd.underlying61 Tryd.underlying3 (impl_FewestToSet.zero3 _) (w8.heap.size + 1) _ _ rfl ho4.out _ _ rfl KB.out ?_; intro c hat hwc; obtain rfl := (impl_FewestToSet.int_eq hat hD.out.at_b).symm; clear hat hwc) | (at_mapUpdate; refine wpList_mapUpdate_own _ rfl _ _ _ 61 rfl 9 3 impl_FewestToSet.klaw Tryd.underlying61 _ (w8.heap.size + 1) m _ rfl ho4.out (by unfold maxLen; omega) _ _ _ rfl rfl KB.out _ [] (plainElem_int Tryd.underlying3 (WalkArith.wf_i64 (by omega))) ?_; intro w5 hown5 hgrow5; have HO5 := Aside0.mk hown5; have HG5 := Aside0.mk hgrow5; clear hown5 hgrow5) | (at_lookup; refine wpList_lookup_own_int _ rfl _ _ 61 rfl 9 3 .i64 impl_FewestToSet.klaw Tryd.underlying61 Tryd.underlying3 (impl_FewestToSet.zero3 _) (w8.heap.size + 1) _ _ rfl HO5.out _ _ rfl KA.out ?_; intro c hat hwc; obtain rfl := (impl_FewestToSet.int_eq hat hD1.out.at_a).symm; clear hat hwc) | (at_lookup; refine wpList_lookup_own_int _ rfl _ _ 61 rfl 9 3 .i64 impl_FewestToSet.klaw Tryd.underlying61 Tryd.underlying3 (impl_FewestToSet.zero3 _) (w8.heap.size + 1) _ _ rfl HO5.out _ _ rfl KB.out ?_; intro c hat hwc; obtain rfl := (impl_FewestToSet.int_eq hat hD1.out.at_b).symm; clear hat hwc) | (go_at_call 53; (with_reducible refine (impl_setOver.calls 2 (x) (y + 1) t2 _ A3.out).mono ?_); rintro e w9 ⟨rfl, ⟨nd3, rfl⟩⟩))
                          go_roundg kq
                          case measure => omega
                          case rel => exact ⟨_, x, y + 1, ⟨#[]⟩, _, m + 1, rfl, rfl, hD1, ⟨by have := hm.out; omega⟩, HO5, ⟨pw_below_drewN (hb4.out.grown HG5.out hb4.out.size (fun j hj => by cases hj; omega)) _⟩, H⟩
                      · rw [if_neg hmx] at hcc
                        subst hcc
                        by_cases ht2 : t2.toList = [98]
                        · rw [if_pos ht2] at H
                          have c3 : (t2.toList == ([98] : List UInt8)) = true := beq_iff_eq.2 ht2
                          have c4 : (t2.toList == (⟨#[98]⟩ : ByteArray).toList) = true := by rw [l1]; exact c3
                          clear ht2
                          simp only [Option.some.injEq, Prod.mk.injEq] at H
                          obtain ⟨rfl, rfl⟩ := H
                          go_wp2_with (first | (at_lookup; refine wpList_lookup_own_int _ rfl _ _ 61 rfl 9 3 .i64 impl_FewestToSet.klaw Tryd.underlying61 Tryd.underlying3 (impl_FewestToSet.zero3 _) (w8.heap.size + 1) _ _ rfl ho4.out _ _ rfl KB.out ?_; intro c hat hwc; obtain rfl := (impl_FewestToSet.int_eq hat hD.out.at_b).symm; clear hat hwc) | (at_mapUpdate; refine wpList_mapUpdate_own _ rfl _ _ _ 61 rfl 9 3 impl_FewestToSet.klaw Tryd.underlying61 _ (w8.heap.size + 1) m _ rfl ho4.out (by unfold maxLen; omega) _ _ _ rfl rfl KB.out _ [] (plainElem_int Tryd.underlying3 (WalkArith.wf_i64 (by omega))) ?_; intro w5 hown5 hgrow5; have HO5 := Aside0.mk hown5; have HG5 := Aside0.mk hgrow5; clear hown5 hgrow5) | (at_lookup; refine wpList_lookup_own_int _ rfl _ _ 61 rfl 9 3 .i64 impl_FewestToSet.klaw Tryd.underlying61 Tryd.underlying3 (impl_FewestToSet.zero3 _) (w8.heap.size + 1) _ _ rfl HO5.out _ _ rfl KA.out ?_; intro c hat hwc; obtain rfl := (impl_FewestToSet.int_eq hat hD1.out.at_a).symm; clear hat hwc) | (at_lookup; refine wpList_lookup_own_int _ rfl _ _ 61 rfl 9 3 .i64 impl_FewestToSet.klaw Tryd.underlying61 Tryd.underlying3 (impl_FewestToSet.zero3 _) (w8.heap.size + 1) _ _ rfl HO5.out _ _ rfl KB.out ?_; intro c hat hwc; obtain rfl := (impl_FewestToSet.int_eq hat hD1.out.at_b).symm; clear hat hwc) | (go_at_call 53; (with_reducible refine (impl_setOver.calls 2 (x) (y + 1) t2 _ A3.out).mono ?_); rintro e w9 ⟨rfl, ⟨nd3, rfl⟩⟩))
                          go_ret2
                          exact ⟨rfl, pw_below_drewN (hb4.out.grown HG5.out hb4.out.size (fun j hj => by cases hj; omega)) _⟩
                        · rw [if_neg ht2] at H
                          have c3 : (t2.toList == ([98] : List UInt8)) = false := beq_eq_false_iff_ne.2 ht2
                          have c4 : (t2.toList == (⟨#[98]⟩ : ByteArray).toList) = false := by rw [l1]; exact c3
                          clear ht2
                          have H := Aside0.mk H
                          go_wp2_with (first | (at_lookup; refine wpList_lookup_own_int _ rfl _ _ 61 rfl 9 3 .i64 impl_FewestToSet.klaw Tryd.underlying61 Tryd.underlying3 (impl_FewestToSet.zero3 _) (w8.heap.size + 1) _ _ rfl ho4.out _ _ rfl KB.out ?_; intro c hat hwc; obtain rfl := (impl_FewestToSet.int_eq hat hD.out.at_b).symm; clear hat hwc) | (at_mapUpdate; refine wpList_mapUpdate_own _ rfl _ _ _ 61 rfl 9 3 impl_FewestToSet.klaw Tryd.underlying61 _ (w8.heap.size + 1) m _ rfl ho4.out (by unfold maxLen; omega) _ _ _ rfl rfl KB.out _ [] (plainElem_int Tryd.underlying3 (WalkArith.wf_i64 (by omega))) ?_; intro w5 hown5 hgrow5; have HO5 := Aside0.mk hown5; have HG5 := Aside0.mk hgrow5; clear hown5 hgrow5) | (at_lookup; refine wpList_lookup_own_int _ rfl _ _ 61 rfl 9 3 .i64 impl_FewestToSet.klaw Tryd.underlying61 Tryd.underlying3 (impl_FewestToSet.zero3 _) (w8.heap.size + 1) _ _ rfl HO5.out _ _ rfl KA.out ?_; intro c hat hwc; obtain rfl := (impl_FewestToSet.int_eq hat hD1.out.at_a).symm; clear hat hwc) | (at_lookup; refine wpList_lookup_own_int _ rfl _ _ 61 rfl 9 3 .i64 impl_FewestToSet.klaw Tryd.underlying61 Tryd.underlying3 (impl_FewestToSet.zero3 _) (w8.heap.size + 1) _ _ rfl HO5.out _ _ rfl KB.out ?_; intro c hat hwc; obtain rfl := (impl_FewestToSet.int_eq hat hD1.out.at_b).symm; clear hat hwc) | (go_at_call 53; (with_reducible refine (impl_setOver.calls 2 (x) (y + 1) t2 _ A3.out).mono ?_); rintro e w9 ⟨rfl, ⟨nd3, rfl⟩⟩))
                          go_roundg kq
                          case measure => omega
                          case rel => exact ⟨_, x, y + 1, ⟨#[]⟩, _, m + 1, rfl, rfl, hD1, ⟨by have := hm.out; omega⟩, HO5, ⟨pw_below_drewN (hb4.out.grown HG5.out hb4.out.size (fun j hj => by cases hj; omega)) _⟩, H⟩
              · rw [if_neg hp] at H
                cases H
        · rw [if_neg ht] at H
          have c1 : (t.toList == ([45] : List UInt8)) = false := beq_eq_false_iff_ne.2 ht
          have c2 : (t.toList != ([45] : List UInt8)) = true := bne_iff_ne.2 ht
          clear ht
          simp only [Option.some.injEq, Prod.mk.injEq] at H
          obtain ⟨rfl, rfl⟩ := H
          have l1 := impl_FewestToSet.l98
          go_enter Tryd.func36, Tryd.ntmps36
          go_wp2_with (first | (go_at_call 52; (with_reducible refine (impl_readSet.calls a0 g a b o x y true _ A0.out).mono ?_); rintro e w8 ⟨rfl, hb⟩; have HB := Aside0.mk hb; clear hb) | (go_at_call 63; (with_reducible refine (impl_isSide.calls ⟨#[98]⟩ true _ S.out).mono ?_); rintro e w9 ⟨rfl, ⟨nd, rfl⟩⟩) | (go_at_call 53; (with_reducible refine (impl_setOver.calls 2 a b t _ A1.out).mono ?_); rintro e w9 ⟨rfl, ⟨nd2, rfl⟩⟩))
          go_ret2
          exact ⟨by first | rfl | simp [l1], pw_below_drewN (below_alloc HB.out _) _⟩
      · rw [if_neg (fun h => h.elim hA hB)] at H
        have S : Aside0 (impl_isSide.f a1 = some false) := ⟨by unfold impl_isSide.f; rw [if_neg hA, beq_eq_false_iff_ne.2 hB]⟩
        clear hA hB
        simp only [Option.some.injEq, Prod.mk.injEq] at H
        obtain ⟨rfl, rfl⟩ := H
        go_enter Tryd.func36, Tryd.ntmps36
        go_wp2_with (first | (go_at_call 52; (with_reducible refine (impl_readSet.calls a0 g a b o x y true _ A0.out).mono ?_); rintro e w8 ⟨rfl, hb⟩; have HB := Aside0.mk hb; clear hb) | (go_at_call 63; (with_reducible refine (impl_isSide.calls a1 false _ S.out).mono ?_); rintro e w9 ⟨rfl, ⟨nd, rfl⟩⟩))
        go_ret2
        exact ⟨rfl, pw_below_drewN (below_alloc HB.out _) _⟩

end Go.Proofs.YtjnkcgddalbojaaDoor.PA
