/- Printed by this session's drive.py (the kit's print.py with hooks): functions of the seat as plain Lean functions, and the proofs that the calls do what these say. -/
import Derived.Test.YtgdkedcahcpofaaPAx0
import Derived.Test.YtgdkedcahcpofaaPAx18
namespace Go.Proofs.Ytgdkedcahcpofaa.PA
open Go.RowKit Go.Proofs.YtgdkedcahcpofaaW.PrintWords Go.Proofs.YtgdkedcahcpofaaW.PrintLast Go.Proofs.YtgdkedcahcpofaaW.PrintMore
open Go.Proofs.YtgdkedcahcpofaaH
attribute [local go_sem] max2_int min2_int max_two min_two max_three min_three max_four min_four   -- for this text's walks alone
set_option linter.unusedVariables false
set_option linter.unusedSimpArgs false

/-! ### laws_markDartSS: function 10 -/
-- by hand
def laws_markDartSS.l0 : Nat → (List (List (S49))) → Int → Int → Option (Int × (List (List (S49))))
  | 0, _, _, _ => none
  | k + 1, x0, x1, x5 => if x5 < (x0.length : Int) then (if 0 ≤ x5 then ((laws_markDartS.f k (rd_L4 x0 x5) x1).bind fun t => laws_markDartSS.l0 k (x0.set (x5 : Int).toNat t.2) t.1 (wrap64 (x5 + 1))) else (none)) else (some (x1, x0))
def laws_markDartSS.f (k : Nat) (l0 : (List (List (S49)))) (a1 : Int) : Option (Int × (List (List (S49)))) := laws_markDartSS.l0 k l0 a1 0
theorem laws_markDartSS.l0_mono : ∀ k x0 x1 x5, LeO (laws_markDartSS.l0 k x0 x1 x5) (laws_markDartSS.l0 (k + 1) x0 x1 x5)
  | 0, _, _, _ => LeO.none _
  | k + 1, x0, x1, x5 => by
    unfold laws_markDartSS.l0
    exact LeO.ite (LeO.ite (LeO.bind (laws_markDartS.mono _ _ _) (fun t => laws_markDartSS.l0_mono k _ _ _)) (LeO.refl _)) (LeO.refl _)
theorem laws_markDartSS.mono : ∀ l0 a1 k, LeO (laws_markDartSS.f k l0 a1) (laws_markDartSS.f (k + 1) l0 a1) := fun l0 a1 k => laws_markDartSS.l0_mono k l0 a1 0
set_option maxHeartbeats 8000000 in
set_option maxRecDepth 100000 in
theorem laws_markDartSS.calls (k : Nat) (P0_ : Nat → Prop) (u9000_ : Value) (l0 : (List (List (S49)))) (a1 : Int) (r1 : Int) (r2 : (List (List (S49)))) (w0 w : World) (hB : Below w0.heap.size w0 w) (ho0 : Kd.S (Kd.slice 49 k49) 37 w w0.heap.size P0_ u9000_ l0) (h : laws_markDartSS.f k l0 a1 = some (r1, r2)) :
    Calls Try.prog 10 #[u9000_, .int .i64 a1] w fun e w' => e = .returned (.int .i64 r1) ∧ Kd.S (Kd.slice 49 k49) 37 w' w0.heap.size P0_ u9000_ r2 ∧ Below w0.heap.size w0 w' ∧ Kept w w' (fun k_ => P0_ k_) := by
  have hlen : l0.length ≤ 9223372036854775807 := by
    obtain ⟨A, c, _, _, hC⟩ := Kd.S_reads ho0
    exact hC.2.1
  have HO := Aside0.mk ho0
  have HB := Aside0.mk hB
  have H := Aside0.mk (show laws_markDartSS.l0 k l0 a1 0 = some (r1, r2) from h)
  clear h hB
  rcases Nat.eq_zero_or_pos l0.length with hz | hp
  · obtain rfl := List.eq_nil_of_length_eq_zero hz
    obtain ⟨A, c, rfl⟩ := Kd.S_slice ho0
    clear hz ho0
    cases k with
    | zero => exact absurd H.out (by simp [laws_markDartSS.l0])
    | succ k =>
      have H1 := H.out
      simp only [laws_markDartSS.l0, List.length_nil] at H1
      rw [if_neg (by omega)] at H1
      simp only [Option.some.injEq, Prod.mk.injEq] at H1
      obtain ⟨rfl, rfl⟩ := H1
      clear H
      simp only [List.length_nil] at HO ⊢
      go_enter Try.func10, Try.ntmps10
      go_wp2
      refine wp_loop_rounds 1 ?_
      rw [rounds_succ]
      go_wp2
      go_ret
      exact ⟨rfl, HO.out, HB.out, Kept.refl _ _⟩
  · obtain ⟨g, cap, rfl, _, _, _⟩ := Kd.S_form ho0 hp
    clear ho0
    go_enter Try.func10, Try.ntmps10
    go_wp2
    go_loopg [1, 5] k (fun kq v1 v5 wr => ∃ (x1 : Int) (i : Nat) (xs : (List (List (S49)))), v1 = .int .i64 x1 ∧ v5 = .int .i64 (i : Int) ∧ i ≤ l0.length ∧ Aside0 (xs.length = l0.length) ∧ Aside0 (Kd.S (Kd.slice 49 k49) 37 wr w0.heap.size P0_ (.slice (some ⟨g, 0, none⟩) l0.length cap) xs) ∧ Aside0 (Below w0.heap.size w0 wr) ∧ Aside0 (Kept w wr (fun k_ => P0_ k_)) ∧ Aside0 (laws_markDartSS.l0 kq xs x1 (i : Int) = some (r1, r2)))
    case atStart => exact ⟨a1, 0, l0, rfl, rfl, Nat.zero_le _, ⟨rfl⟩, HO, HB, ⟨Kept.refl _ _⟩, H⟩
    case round =>
      obtain ⟨x1, i, xs, rfl, rfl, hi, hxl, hS, hbl, hkp, hf⟩ := hrel
      clear H HO HB
      cases gk with
      | zero => exact absurd hf.out (by simp [laws_markDartSS.l0])
      | succ kq =>
        have H := hf.out
        clear hf
        simp only [laws_markDartSS.l0] at H
        rw [hxl.out] at H
        by_cases hlt : i < l0.length
        · rw [if_pos (by omega), if_pos (by omega)] at H
          obtain ⟨⟨t1, t2⟩, A1, H⟩ := Option.bind_eq_some_iff.mp H
          have A1 := Aside0.mk A1
          have H := Aside0.mk H
          obtain ⟨oki, c, hcl, hM, hcell, hoki, hH⟩ := Kd.S_lend hS.out [] (i : Int) (by omega) (by omega)
          obtain ⟨y, hy⟩ : ∃ y, xs.getD (i : Int).toNat [] = y := ⟨_, rfl⟩
          rw [hy] at hM
          have A1 := Aside0.mk (show laws_markDartS.f kq y x1 = some (t1, t2) by rw [← hy]; exact A1.out)
          clear hy
          obtain ⟨v, rfl, hR⟩ := hM
          have hc0 : wr.cell? ⟨g, i, none⟩ = some v := by
            have h2 := hcell 0 v rfl
            rw [show (i : Int).toNat * ((Kd.slice 49 k49)).sz + 0 = i from by show (i : Int).toNat * 1 + 0 = i; omega] at h2
            exact h2
          have HH := Aside0.mk hH
          have HR := Aside0.mk hR
          have HK := Aside0.mk hoki
          obtain ⟨Av, cv, hv⟩ := Kd.R_slice hR
          subst hv
          clear hcell hcl hH hR hoki
          go_wp2_with (first | (go_at_call 21; (with_reducible refine (laws_markDartS.calls kq oki (.slice Av y.length cv) y x1 t1 t2 w0 _ hbl.out HR.out A1.out).mono ?_); rintro e w9 ⟨rfl, hr9, hb9, hk9⟩; have HR9 := Aside0.mk hr9; have HB9 := Aside0.mk hb9; have HK9 := Aside0.mk hk9; clear hr9 hb9 hk9))
          go_roundg kq
          case measure => omega
          case rel =>
            have hH9 := Kd.H_step HH.out (fun k ho hn hlt => HK9.out.2 k hlt hn)
            have hR9 : Kd.R k49 49 w9 w0.heap.size oki (.slice Av y.length cv) t2 := Kd.R_mono (Kd.R_tight rfl HR9.out) (fun k e => HR.out.1 k e.symm)
            have hS9 := Kd.H_back (x' := t2) hH9 (okp := oki) ⟨_, rfl, hR9⟩ (fun _ hk => hk)
            exact ⟨t1, i + 1, xs.set (i : Int).toNat t2, rfl, by go_num, by omega, ⟨by rw [List.length_set]; exact hxl.out⟩, ⟨hS9⟩, HB9, ⟨Kept.then_ hkp.out HK9.out (fun k hk => .inl (HK.out k hk).1)⟩, ⟨by
              have e1 : wrap64 ((i : Int) + 1) = ((i + 1 : Nat) : Int) := by unfold wrap64; omega
              rw [← e1]; exact H.out⟩⟩
        · obtain rfl : i = l0.length := by omega
          rw [if_neg (by omega)] at H
          simp only [Option.some.injEq, Prod.mk.injEq] at H
          obtain ⟨rfl, rfl⟩ := H
          clear hlt
          go_wp2
          go_ret
          exact ⟨rfl, hS.out, hbl.out, hkp.out⟩

end Go.Proofs.Ytgdkedcahcpofaa.PA
