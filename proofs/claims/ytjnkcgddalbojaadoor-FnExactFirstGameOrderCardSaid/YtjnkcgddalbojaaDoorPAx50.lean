/- Printed by this session's drive.py (the kit's print.py with hooks): functions of the seat as plain Lean functions, and the proofs that the calls do what these say. -/
import Derived.Laws.EntriesVeiled
import Derived.Test.YtjnkcgddalbojaaDoorPAx0
import Derived.Test.YtjnkcgddalbojaaDoorPAx33
import Derived.Test.YtjnkcgddalbojaaDoorPAx49
namespace Go.Proofs.YtjnkcgddalbojaaDoor.PA
open Go.RowKit Go.Proofs.YtjnkcgddalbojaaDoorW.PrintWords Go.Proofs.YtjnkcgddalbojaaDoorW.PrintLast Go.Proofs.YtjnkcgddalbojaaDoorW.PrintMore
open Go.Proofs.YtjnkcgddalbojaaDoorH
attribute [local go_sem] max2_int min2_int max_two min_two max_three min_three max_four min_four   -- for this text's walks alone
set_option linter.unusedVariables false
set_option linter.unusedSimpArgs false

/-! ### impl_FirstGameOrder: function 38 -/
-- by hand
def impl_FirstGameOrder.next (g : ByteArray → Option (ByteArray × Bool)) (s : ByteArray) : Option (ByteArray × Bool) := if s.size ≤ 1000 then ((g (s ++ ⟨#[97]⟩)).bind fun u => if u.2 = true then some (u.1, true) else g (s ++ ⟨#[98]⟩)) else none
def impl_FirstGameOrder.find : Nat → Int → Int → ByteArray → Option (ByteArray × Bool)
  | 0, _, _, _ => none
  | k + 1, a, b, s => if ((Lib.countByte s.data.toList 97 : Nat) : Int) > a then some (⟨#[]⟩, false) else if ((Lib.countByte s.data.toList 98 : Nat) : Int) > b then some (⟨#[]⟩, false) else (impl_IsGameOrder.f s).bind fun t => if t = true then (if ((Lib.countByte s.data.toList 97 : Nat) : Int) = a then (if ((Lib.countByte s.data.toList 98 : Nat) : Int) = b then some (s, true) else impl_FirstGameOrder.next (impl_FirstGameOrder.find k a b) s) else impl_FirstGameOrder.next (impl_FirstGameOrder.find k a b) s) else some (⟨#[]⟩, false)
def impl_FirstGameOrder.f (k : Nat) (a0 a1 : Int) : Option (ByteArray × Bool) := (impl_CountGameOrders.f k a0 a1).bind fun t => if t.2 = true then (if t.1 = 0 then some (⟨#[]⟩, false) else impl_FirstGameOrder.find k a0 a1 ⟨#[]⟩) else some (⟨#[]⟩, false)
theorem impl_FirstGameOrder.next_mono {g g' : ByteArray → Option (ByteArray × Bool)} (h : ∀ s, LeO (g s) (g' s)) (s : ByteArray) : LeO (impl_FirstGameOrder.next g s) (impl_FirstGameOrder.next g' s) := by
  unfold impl_FirstGameOrder.next
  exact LeO.ite (LeO.bind (h _) (fun u => LeO.ite (LeO.refl _) (h _))) (LeO.refl _)
theorem impl_FirstGameOrder.find_mono : ∀ k a b s, LeO (impl_FirstGameOrder.find k a b s) (impl_FirstGameOrder.find (k + 1) a b s)
  | 0, _, _, _ => LeO.none _
  | k + 1, a, b, s => by
    have ih := fun s => impl_FirstGameOrder.find_mono k a b s
    unfold impl_FirstGameOrder.find
    exact LeO.ite (LeO.refl _) (LeO.ite (LeO.refl _) (LeO.bind (LeO.refl _) (fun t => LeO.ite (LeO.ite (LeO.ite (LeO.refl _) (impl_FirstGameOrder.next_mono ih s)) (impl_FirstGameOrder.next_mono ih s)) (LeO.refl _))))
theorem impl_FirstGameOrder.mono : ∀ a0 a1 k, LeO (impl_FirstGameOrder.f k a0 a1) (impl_FirstGameOrder.f (k + 1) a0 a1) := by
  intro a0 a1 k
  unfold impl_FirstGameOrder.f
  exact LeO.bind (impl_CountGameOrders.mono _ _ _) (fun t => LeO.ite (LeO.ite (LeO.refl _) (impl_FirstGameOrder.find_mono _ _ _ _)) (LeO.refl _))
/-- The captured variables: the two numbers, and the closure itself. -/
structure impl_FirstGameOrder.Env (w : World) (a b : Int) (pa pb pf : Nat) : Prop where
  ha : w.heap[pa]? = some (.cells #[.int .i64 a] 3 (0, 0))
  hb : w.heap[pb]? = some (.cells #[.int .i64 b] 3 (0, 0))
  hf : w.heap[pf]? = some (.cells #[.func (.func 68) #[] #[.pointer (some ⟨pa, 0, none⟩), .pointer (some ⟨pb, 0, none⟩), .pointer (some ⟨pf, 0, none⟩)]] 28 (0, 0))
theorem impl_FirstGameOrder.Env.below {w w' : World} {a b : Int} {pa pb pf : Nat} (h : impl_FirstGameOrder.Env w a b pa pb pf) (hb : Below w.heap.size w w') : impl_FirstGameOrder.Env w' a b pa pb pf :=
  ⟨blk_below h.ha hb, blk_below h.hb hb, blk_below h.hf hb⟩
theorem impl_FirstGameOrder.snoc_size (s : ByteArray) (c : UInt8) : (s ++ (⟨#[c]⟩ : ByteArray)).size = s.size + 1 := by rw [ByteArray.size_append]; rfl
set_option maxHeartbeats 8000000 in
set_option maxRecDepth 100000 in
theorem impl_FirstGameOrder.find_calls (k : Nat) : ∀ (a b : Int) (s : ByteArray) (pa pb pf : Nat) (r1 : ByteArray) (r2 : Bool) (w : World) (hE : impl_FirstGameOrder.Env w a b pa pb pf) (h : impl_FirstGameOrder.find k a b s = some (r1, r2)),
    Calls Tryd.prog 68 #[.string s, .pointer (some ⟨pa, 0, none⟩), .pointer (some ⟨pb, 0, none⟩), .pointer (some ⟨pf, 0, none⟩)] w fun e w' => e = .returned (.tuple #[.string r1, .bool r2]) ∧ Below w.heap.size w w' := by
  induction k with
  | zero => intro a b s pa pb pf r1 r2 w hE h; cases h
  | succ k ih =>
    intro a b s pa pb pf r1 r2 w hE h
    have IH := Lib.hid ih
    clear ih
    simp only [impl_FirstGameOrder.find] at h
    obtain ⟨x, hx⟩ : ∃ x : Int, ((Lib.countByte s.data.toList 97 : Nat) : Int) = x := ⟨_, rfl⟩
    obtain ⟨y, hy⟩ : ∃ y : Int, ((Lib.countByte s.data.toList 98 : Nat) : Int) = y := ⟨_, rfl⟩
    rw [hx, hy] at h
    have CX := Lib.hid (show ∀ w, Calls Tryd.prog 50 #[.string s, .string ⟨#[97]⟩] w fun e w' => e = .returned (.int .i64 x) ∧ w' = w from fun w => by rw [← hx]; exact Tryd.strings_Count_one s 97 w)
    have CY := Lib.hid (show ∀ w, Calls Tryd.prog 50 #[.string s, .string ⟨#[98]⟩] w fun e w' => e = .returned (.int .i64 y) ∧ w' = w from fun w => by rw [← hy]; exact Tryd.strings_Count_one s 98 w)
    clear hx hy
    have c0 : w.cell? ⟨pa, 0, none⟩ = some (.int .i64 a) := (blk_cell hE.ha 0).trans rfl
    have c1 : w.cell? ⟨pb, 0, none⟩ = some (.int .i64 b) := (blk_cell hE.hb 0).trans rfl
    have c2 : w.cell? ⟨pf, 0, none⟩ = some (.func (.func 68) #[] #[.pointer (some ⟨pa, 0, none⟩), .pointer (some ⟨pb, 0, none⟩), .pointer (some ⟨pf, 0, none⟩)]) := (blk_cell hE.hf 0).trans rfl
    have HE := Aside0.mk hE
    clear hE
    by_cases h1 : x > a
    · rw [if_pos h1] at h
      cases h
      have d1 : decide (a < x) = true := decide_eq_true h1
      clear h1
      go_enter Tryd.func68, Tryd.ntmps68
      go_wp2_with (first | (go_at_call 50; (with_reducible refine (CX.out _).mono ?_); rintro e w8 ⟨rfl, rfl⟩) | (go_at_call 50; (with_reducible refine (CY.out _).mono ?_); rintro e w8 ⟨rfl, rfl⟩))
      go_ret2
      exact ⟨rfl, Below.refl _ _⟩
    · rw [if_neg h1] at h
      have d1 : decide (a < x) = false := decide_eq_false h1
      clear h1
      by_cases h2 : y > b
      · rw [if_pos h2] at h
        cases h
        have d2 : decide (b < y) = true := decide_eq_true h2
        clear h2
        go_enter Tryd.func68, Tryd.ntmps68
        go_wp2_with (first | (go_at_call 50; (with_reducible refine (CX.out _).mono ?_); rintro e w8 ⟨rfl, rfl⟩) | (go_at_call 50; (with_reducible refine (CY.out _).mono ?_); rintro e w8 ⟨rfl, rfl⟩))
        go_ret2
        exact ⟨rfl, Below.refl _ _⟩
      · rw [if_neg h2] at h
        have d2 : decide (b < y) = false := decide_eq_false h2
        clear h2
        obtain ⟨t, A1, H⟩ := Option.bind_eq_some_iff.mp h
        clear h
        have A1 := Aside0.mk A1
        cases t with
        | false =>
          rw [if_neg Bool.false_ne_true] at H
          cases H
          go_enter Tryd.func68, Tryd.ntmps68
          go_wp2_with (first | (go_at_call 50; (with_reducible refine (CX.out _).mono ?_); rintro e w8 ⟨rfl, rfl⟩) | (go_at_call 50; (with_reducible refine (CY.out _).mono ?_); rintro e w8 ⟨rfl, rfl⟩) | (go_at_call 24; (with_reducible refine (impl_IsGameOrder.calls s false _ A1.out).mono ?_); rintro e w9 ⟨rfl, hb⟩; have HB := Aside0.mk hb; clear hb))
          go_ret2
          exact ⟨rfl, HB.out⟩
        | true =>
          rw [if_pos rfl] at H
          by_cases h3 : x = a
          · rw [if_pos h3] at H
            have d3 : (x == a) = true := beq_iff_eq.2 h3
            clear h3
            by_cases h4 : y = b
            · rw [if_pos h4] at H
              have d4 : (y == b) = true := beq_iff_eq.2 h4
              clear h4
              simp only [Option.some.injEq, Prod.mk.injEq] at H
              obtain ⟨rfl, rfl⟩ := H
              go_enter Tryd.func68, Tryd.ntmps68
              go_wp2_with (first | (go_at_call 50; (with_reducible refine (CX.out _).mono ?_); rintro e w8 ⟨rfl, rfl⟩) | (go_at_call 50; (with_reducible refine (CY.out _).mono ?_); rintro e w8 ⟨rfl, rfl⟩) | (go_at_call 24; (with_reducible refine (impl_IsGameOrder.calls s true _ A1.out).mono ?_); rintro e w9 ⟨rfl, hb⟩; have HB := Aside0.mk hb; have HE9 := Aside0.mk (HE.out.below hb); clear hb; have k0 : w9.cell? ⟨pa, 0, none⟩ = some (.int .i64 a) := (blk_cell HE9.out.ha 0).trans rfl; have k1 : w9.cell? ⟨pb, 0, none⟩ = some (.int .i64 b) := (blk_cell HE9.out.hb 0).trans rfl; have k2 : w9.cell? ⟨pf, 0, none⟩ = some (.func (.func 68) #[] #[.pointer (some ⟨pa, 0, none⟩), .pointer (some ⟨pb, 0, none⟩), .pointer (some ⟨pf, 0, none⟩)]) := (blk_cell HE9.out.hf 0).trans rfl))
              go_ret2
              exact ⟨rfl, HB.out⟩
            · rw [if_neg h4] at H
              have d4 : (y == b) = false := beq_eq_false_iff_ne.2 h4
              clear h4
              unfold impl_FirstGameOrder.next at H
              by_cases hz : s.size ≤ 1000
              · rw [if_pos hz] at H
                obtain ⟨⟨u1, u2⟩, U, H⟩ := Option.bind_eq_some_iff.mp H
                have U := Aside0.mk U
                have z1 : s.size + 1 ≤ 9223372036854775807 := by omega
                cases u2 with
                | true =>
                  replace H : some (u1, true) = some (r1, r2) := H
                  simp only [Option.some.injEq, Prod.mk.injEq] at H
                  obtain ⟨rfl, rfl⟩ := H
                  go_enter Tryd.func68, Tryd.ntmps68
                  go_wp2_with (first | (go_at_call 50; (with_reducible refine (CX.out _).mono ?_); rintro e w8 ⟨rfl, rfl⟩) | (go_at_call 50; (with_reducible refine (CY.out _).mono ?_); rintro e w8 ⟨rfl, rfl⟩) | (go_at_call 24; (with_reducible refine (impl_IsGameOrder.calls s true _ A1.out).mono ?_); rintro e w9 ⟨rfl, hb⟩; have HB := Aside0.mk hb; have HE9 := Aside0.mk (HE.out.below hb); clear hb; have k0 : w9.cell? ⟨pa, 0, none⟩ = some (.int .i64 a) := (blk_cell HE9.out.ha 0).trans rfl; have k1 : w9.cell? ⟨pb, 0, none⟩ = some (.int .i64 b) := (blk_cell HE9.out.hb 0).trans rfl; have k2 : w9.cell? ⟨pf, 0, none⟩ = some (.func (.func 68) #[] #[.pointer (some ⟨pa, 0, none⟩), .pointer (some ⟨pb, 0, none⟩), .pointer (some ⟨pf, 0, none⟩)]) := (blk_cell HE9.out.hf 0).trans rfl) | (go_at_call 68; (with_reducible refine (IH.out a b (s ++ ⟨#[97]⟩) pa pb pf u1 true _ HE9.out U.out).mono ?_); rintro e wA ⟨rfl, hb⟩; have HBA := Aside0.mk (below_step HB.out hb); have HEA := Aside0.mk (HE9.out.below hb); clear hb; have m2 : wA.cell? ⟨pf, 0, none⟩ = some (.func (.func 68) #[] #[.pointer (some ⟨pa, 0, none⟩), .pointer (some ⟨pb, 0, none⟩), .pointer (some ⟨pf, 0, none⟩)]) := (blk_cell HEA.out.hf 0).trans rfl))
                  go_ret2
                  exact ⟨rfl, HBA.out⟩
                | false =>
                  replace H : impl_FirstGameOrder.find k a b (s ++ ⟨#[98]⟩) = some (r1, r2) := H
                  have V := Aside0.mk H
                  clear H
                  go_enter Tryd.func68, Tryd.ntmps68
                  go_wp2_with (first | (go_at_call 50; (with_reducible refine (CX.out _).mono ?_); rintro e w8 ⟨rfl, rfl⟩) | (go_at_call 50; (with_reducible refine (CY.out _).mono ?_); rintro e w8 ⟨rfl, rfl⟩) | (go_at_call 24; (with_reducible refine (impl_IsGameOrder.calls s true _ A1.out).mono ?_); rintro e w9 ⟨rfl, hb⟩; have HB := Aside0.mk hb; have HE9 := Aside0.mk (HE.out.below hb); clear hb; have k0 : w9.cell? ⟨pa, 0, none⟩ = some (.int .i64 a) := (blk_cell HE9.out.ha 0).trans rfl; have k1 : w9.cell? ⟨pb, 0, none⟩ = some (.int .i64 b) := (blk_cell HE9.out.hb 0).trans rfl; have k2 : w9.cell? ⟨pf, 0, none⟩ = some (.func (.func 68) #[] #[.pointer (some ⟨pa, 0, none⟩), .pointer (some ⟨pb, 0, none⟩), .pointer (some ⟨pf, 0, none⟩)]) := (blk_cell HE9.out.hf 0).trans rfl) | (go_at_call 68; (with_reducible refine (IH.out a b (s ++ ⟨#[97]⟩) pa pb pf u1 false _ HE9.out U.out).mono ?_); rintro e wA ⟨rfl, hb⟩; have HBA := Aside0.mk (below_step HB.out hb); have HEA := Aside0.mk (HE9.out.below hb); clear hb; have m2 : wA.cell? ⟨pf, 0, none⟩ = some (.func (.func 68) #[] #[.pointer (some ⟨pa, 0, none⟩), .pointer (some ⟨pb, 0, none⟩), .pointer (some ⟨pf, 0, none⟩)]) := (blk_cell HEA.out.hf 0).trans rfl) | (go_at_call 68; (with_reducible refine (IH.out a b (s ++ ⟨#[98]⟩) pa pb pf r1 r2 _ HEA.out V.out).mono ?_); rintro e wB ⟨rfl, hb⟩; have HBB := Aside0.mk (below_step HBA.out hb); clear hb))
                  go_ret2
                  exact ⟨rfl, HBB.out⟩
              · rw [if_neg hz] at H
                cases H
          · rw [if_neg h3] at H
            have d3 : (x == a) = false := beq_eq_false_iff_ne.2 h3
            clear h3
            unfold impl_FirstGameOrder.next at H
            by_cases hz : s.size ≤ 1000
            · rw [if_pos hz] at H
              obtain ⟨⟨u1, u2⟩, U, H⟩ := Option.bind_eq_some_iff.mp H
              have U := Aside0.mk U
              have z1 : s.size + 1 ≤ 9223372036854775807 := by omega
              cases u2 with
              | true =>
                replace H : some (u1, true) = some (r1, r2) := H
                simp only [Option.some.injEq, Prod.mk.injEq] at H
                obtain ⟨rfl, rfl⟩ := H
                go_enter Tryd.func68, Tryd.ntmps68
                go_wp2_with (first | (go_at_call 50; (with_reducible refine (CX.out _).mono ?_); rintro e w8 ⟨rfl, rfl⟩) | (go_at_call 50; (with_reducible refine (CY.out _).mono ?_); rintro e w8 ⟨rfl, rfl⟩) | (go_at_call 24; (with_reducible refine (impl_IsGameOrder.calls s true _ A1.out).mono ?_); rintro e w9 ⟨rfl, hb⟩; have HB := Aside0.mk hb; have HE9 := Aside0.mk (HE.out.below hb); clear hb; have k0 : w9.cell? ⟨pa, 0, none⟩ = some (.int .i64 a) := (blk_cell HE9.out.ha 0).trans rfl; have k1 : w9.cell? ⟨pb, 0, none⟩ = some (.int .i64 b) := (blk_cell HE9.out.hb 0).trans rfl; have k2 : w9.cell? ⟨pf, 0, none⟩ = some (.func (.func 68) #[] #[.pointer (some ⟨pa, 0, none⟩), .pointer (some ⟨pb, 0, none⟩), .pointer (some ⟨pf, 0, none⟩)]) := (blk_cell HE9.out.hf 0).trans rfl) | (go_at_call 68; (with_reducible refine (IH.out a b (s ++ ⟨#[97]⟩) pa pb pf u1 true _ HE9.out U.out).mono ?_); rintro e wA ⟨rfl, hb⟩; have HBA := Aside0.mk (below_step HB.out hb); have HEA := Aside0.mk (HE9.out.below hb); clear hb; have m2 : wA.cell? ⟨pf, 0, none⟩ = some (.func (.func 68) #[] #[.pointer (some ⟨pa, 0, none⟩), .pointer (some ⟨pb, 0, none⟩), .pointer (some ⟨pf, 0, none⟩)]) := (blk_cell HEA.out.hf 0).trans rfl))
                go_ret2
                exact ⟨rfl, HBA.out⟩
              | false =>
                replace H : impl_FirstGameOrder.find k a b (s ++ ⟨#[98]⟩) = some (r1, r2) := H
                have V := Aside0.mk H
                clear H
                go_enter Tryd.func68, Tryd.ntmps68
                go_wp2_with (first | (go_at_call 50; (with_reducible refine (CX.out _).mono ?_); rintro e w8 ⟨rfl, rfl⟩) | (go_at_call 50; (with_reducible refine (CY.out _).mono ?_); rintro e w8 ⟨rfl, rfl⟩) | (go_at_call 24; (with_reducible refine (impl_IsGameOrder.calls s true _ A1.out).mono ?_); rintro e w9 ⟨rfl, hb⟩; have HB := Aside0.mk hb; have HE9 := Aside0.mk (HE.out.below hb); clear hb; have k0 : w9.cell? ⟨pa, 0, none⟩ = some (.int .i64 a) := (blk_cell HE9.out.ha 0).trans rfl; have k1 : w9.cell? ⟨pb, 0, none⟩ = some (.int .i64 b) := (blk_cell HE9.out.hb 0).trans rfl; have k2 : w9.cell? ⟨pf, 0, none⟩ = some (.func (.func 68) #[] #[.pointer (some ⟨pa, 0, none⟩), .pointer (some ⟨pb, 0, none⟩), .pointer (some ⟨pf, 0, none⟩)]) := (blk_cell HE9.out.hf 0).trans rfl) | (go_at_call 68; (with_reducible refine (IH.out a b (s ++ ⟨#[97]⟩) pa pb pf u1 false _ HE9.out U.out).mono ?_); rintro e wA ⟨rfl, hb⟩; have HBA := Aside0.mk (below_step HB.out hb); have HEA := Aside0.mk (HE9.out.below hb); clear hb; have m2 : wA.cell? ⟨pf, 0, none⟩ = some (.func (.func 68) #[] #[.pointer (some ⟨pa, 0, none⟩), .pointer (some ⟨pb, 0, none⟩), .pointer (some ⟨pf, 0, none⟩)]) := (blk_cell HEA.out.hf 0).trans rfl) | (go_at_call 68; (with_reducible refine (IH.out a b (s ++ ⟨#[98]⟩) pa pb pf r1 r2 _ HEA.out V.out).mono ?_); rintro e wB ⟨rfl, hb⟩; have HBB := Aside0.mk (below_step HBA.out hb); clear hb))
                go_ret2
                exact ⟨rfl, HBB.out⟩
            · rw [if_neg hz] at H
              cases H
set_option maxHeartbeats 8000000 in
set_option maxRecDepth 100000 in
theorem impl_FirstGameOrder.calls (k : Nat) (a0 : Int) (a1 : Int) (r1 : ByteArray) (r2 : Bool) (w : World) (h : impl_FirstGameOrder.f k a0 a1 = some (r1, r2)) :
    Calls Tryd.prog 38 #[.int .i64 a0, .int .i64 a1] w fun e w' => e = .returned (.tuple #[.string r1, .bool r2]) ∧ Below w.heap.size w w' := by
  have hmf : ∀ (fn : Fn) (first cap : Array Value) (w : World), (Instr.makeFunc fn first cap).run Tryd.prog w = .ok (.func fn first cap) w := fun _ _ _ _ => rfl
  obtain ⟨⟨t1, t2⟩, A0, H⟩ := Option.bind_eq_some_iff.mp h
  clear h
  have A0 := Aside0.mk A0
  cases t2 with
  | false =>
    replace H : some ((⟨#[]⟩ : ByteArray), false) = some (r1, r2) := H
    simp only [Option.some.injEq, Prod.mk.injEq] at H
    obtain ⟨rfl, rfl⟩ := H
    go_enter Tryd.func38, Tryd.ntmps38
    go_wp2_with (first | (go_at_call 67; (with_reducible refine (impl_CountGameOrders.calls k a0 a1 t1 false _ A0.out).mono ?_); rintro e w8 ⟨rfl, ⟨nd, rfl⟩⟩))
    go_ret2
    exact ⟨rfl, pw_below_drewN (below_alloc (below_alloc (Below.refl _ _) _) _) _⟩
  | true =>
    replace H : (if t1 = 0 then some ((⟨#[]⟩ : ByteArray), false) else impl_FirstGameOrder.find k a0 a1 ⟨#[]⟩) = some (r1, r2) := H
    by_cases h0 : t1 = 0
    · rw [if_pos h0] at H
      have d0 : (t1 == 0) = true := beq_iff_eq.2 h0
      clear h0
      simp only [Option.some.injEq, Prod.mk.injEq] at H
      obtain ⟨rfl, rfl⟩ := H
      go_enter Tryd.func38, Tryd.ntmps38
      go_wp2_with (first | (go_at_call 67; (with_reducible refine (impl_CountGameOrders.calls k a0 a1 t1 true _ A0.out).mono ?_); rintro e w8 ⟨rfl, ⟨nd, rfl⟩⟩))
      go_ret2
      exact ⟨rfl, pw_below_drewN (below_alloc (below_alloc (Below.refl _ _) _) _) _⟩
    · rw [if_neg h0] at H
      have d0 : (t1 == 0) = false := beq_eq_false_iff_ne.2 h0
      have V := Aside0.mk H
      clear h0 H
      go_enter Tryd.func38, Tryd.ntmps38
      go_wp2_with (first | (go_at_call 67; (with_reducible refine (impl_CountGameOrders.calls k a0 a1 t1 true _ A0.out).mono ?_); rintro e w8 ⟨rfl, ⟨nd, rfl⟩⟩) | (go_at_call 68; (with_reducible refine (impl_FirstGameOrder.find_calls k a0 a1 ⟨#[]⟩ w.heap.size (w.heap.size + 1) (w.heap.size + 1 + 1) r1 r2 _ ⟨blk_alloc (blk_drewN (blk_alloc (heap_at _ _ _ rfl) _) _) _, blk_alloc (blk_drewN (heap_at _ _ _ (by simp)) _) _, heap_at _ _ _ (by simp)⟩ V.out).mono ?_); rintro e w9 ⟨rfl, hb⟩; have HB := Aside0.mk hb; clear hb))
      go_ret2
      exact ⟨rfl, below_step (below_alloc (pw_below_drewN (below_alloc (below_alloc (Below.refl _ _) _) _) _) _) HB.out⟩

end Go.Proofs.YtjnkcgddalbojaaDoor.PA
