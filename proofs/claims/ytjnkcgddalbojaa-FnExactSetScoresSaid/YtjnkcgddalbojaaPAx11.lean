/- Printed by this session's drive.py (the kit's print.py with hooks): functions of the seat as plain Lean functions, and the proofs that the calls do what these say. -/
import Derived.Test.YtjnkcgddalbojaaPAx0
import Derived.Test.YtjnkcgddalbojaaPAx2
import Derived.Test.YtjnkcgddalbojaaPAx4
import Derived.Test.YtjnkcgddalbojaaPAx6
import Derived.Test.YtjnkcgddalbojaaPAx8
import Derived.Test.YtjnkcgddalbojaaPAx10
namespace Go.Proofs.Ytjnkcgddalbojaa.PA
open Go.RowKit Go.Proofs.YtjnkcgddalbojaaW.PrintWords Go.Proofs.YtjnkcgddalbojaaW.PrintLast Go.Proofs.YtjnkcgddalbojaaW.PrintMore
open Go.Proofs.YtjnkcgddalbojaaH
attribute [local go_sem] max2_int min2_int max_two min_two max_three min_three max_four min_four   -- for this text's walks alone
set_option linter.unusedVariables false
set_option linter.unusedSimpArgs false

/-! ### laws_FnExactSetScores: function 3 -/
-- by hand
def laws_FnExactSetScores.f (k : Nat) : Option Bool := (spec_SetScores.f k).bind fun w0 => (impl_SetScores.f k).bind fun g0 => (laws_eqIntSS.f k g0 w0).bind fun t => if t = true then ((laws_markIntSS.f k g0 1).bind fun m => (laws_heldIntSS.f k m.2 1).bind fun q => if 0 ≤ q ∧ q = m.1 then some true else none) else none
set_option maxHeartbeats 8000000 in
set_option maxRecDepth 100000 in
theorem laws_FnExactSetScores.calls (k : Nat) (r : Bool) (w : World) (h : laws_FnExactSetScores.f k = some r) :
    Calls Try.prog 3 #[] w fun e w' => e = .returned (.bool r) ∧ Below w.heap.size w w' := by
  obtain ⟨x0, A1, h⟩ := Option.bind_eq_some_iff.mp h
  obtain ⟨x1, A2, h⟩ := Option.bind_eq_some_iff.mp h
  obtain ⟨t, A3, h⟩ := Option.bind_eq_some_iff.mp h
  cases t with
  | false => rw [if_neg Bool.false_ne_true] at h; cases h
  | true =>
    rw [if_pos rfl] at h
    obtain ⟨⟨m1, m2⟩, A4, h⟩ := Option.bind_eq_some_iff.mp h
    obtain ⟨q, A5, h⟩ := Option.bind_eq_some_iff.mp h
    by_cases hq : 0 ≤ q ∧ q = m1
    · rw [if_pos hq] at h
      cases h
      obtain ⟨hq0, rfl⟩ := hq
      have A1 := Aside0.mk A1
      have A2 := Aside0.mk A2
      have A3 := Aside0.mk A3
      have A4 := Aside0.mk A4
      have A5 := Aside0.mk (show laws_heldIntSS.f k m2 1 = some q from A5)
      have c1 : decide (q < 0) = false := decide_eq_false (by omega)
      have HQ := Aside0.mk hq0
      clear hq0
      go_enter Try.func3, Try.ntmps3
      go_upto_region 3 with (first | (go_at_call 4; (with_reducible refine (spec_SetScores.calls k x0 _ A1.out).mono ?_); rintro e w1 ⟨v0, rfl, hs, hb⟩; obtain ⟨B0, d0, rfl, hd0, hC0⟩ := Kd.S_reads hs; have HS0 := Aside0.mk hs; have HB1 := Aside0.mk hb; clear hs hb hC0) | (go_at_call 5; (with_reducible refine (impl_SetScores.calls k x1 _ A2.out).mono ?_); rintro e w2 ⟨v1, rfl, hs, hb⟩; obtain ⟨B1, d1, rfl, hd1, hC1⟩ := Kd.S_reads hs; have HS1 := Aside0.mk hs; have HB2 := Aside0.mk hb; clear hs hb hC1))
      have HS02 := Aside0.mk (Kd.S_old HS0.out HB2.out)
      go_upto_region 6 with (first | (go_at_call 6; (with_reducible refine (laws_eqIntSS.calls k B1 d1 x1 B0 d0 x0 true _ (Kd.S_reads' HS1.out).2.2 hd1 (Kd.S_reads' HS02.out).2.2 hd0 A3.out).mono ?_); rintro e w' ⟨rfl, ⟨nd, rfl⟩⟩))
      have hle : w.heap.size ≤ w1.heap.size := HB1.out.size
      have HBm := Aside0.mk (pw_below_drewN (below_step HB1.out HB2.out) nd)
      have HSm : Aside0 (Kd.S (Kd.slice 3 (Kd.int .i64)) 28 (w2.drewN nd) w.heap.size (fun k_ => w1.heap.size ≤ k_) (.slice B1 x1.length d1) x1) := ⟨Kd.S_drewN (Kd.S_lower (Kd.S_mono (Kd.S_bound HS1.out) (fun k_ hk => hk.2.1)) hle) nd⟩
      clear hle
      go_upto_region 8 with (first | (go_at_call 7; (with_reducible refine (laws_markIntSS.calls k (fun k_ => w1.heap.size ≤ k_) (.slice B1 x1.length d1) x1 1 q m2 w _ HBm.out HSm.out A4.out).mono ?_); rintro e w3 ⟨rfl, hs, hb, hk⟩; have HS3 := Aside0.mk hs; have HB3 := Aside0.mk hb; have HK3 := Aside0.mk hk; clear hs hb hk))
      have HS03 := Aside0.mk (Kd.S_kept (Kd.S_drewN HS02.out nd) HK3.out (fun k_ hk => Nat.not_le.2 hk.2))
      have CT := Aside0.mk (show ∀ (W : World) (B : Nat) (P : Nat → Prop), Kd.S (Kd.slice 3 (Kd.int .i64)) 28 W B P (.slice B1 x1.length d1) m2 → Calls Try.prog 8 #[.slice B1 x1.length d1, .int .i64 1] W fun e w' => e = .returned (.int .i64 q) ∧ Drawn0 W w' from by
        intro W B P hS
        obtain ⟨e1, e2, e3⟩ := Kd.S_reads' hS
        rw [e1] at e2 ⊢
        exact laws_heldIntSS.calls k B1 d1 m2 1 q W e3 e2 A5.out)
      go_upto_region 13 with (first | (go_at_call 8; (with_reducible refine (CT.out _ _ _ HS3.out).mono ?_); rintro e w' ⟨rfl, ⟨nd2, rfl⟩⟩))
      go_upto_region 14 with (first | (go_at_call 5; (with_reducible refine (impl_SetScores.calls k x1 _ A2.out).mono ?_); rintro e w4 ⟨v2, rfl, hs, hb⟩; obtain ⟨B2, d2, rfl, hd2, hC2⟩ := Kd.S_reads hs; have HS4 := Aside0.mk hs; have HB4 := Aside0.mk hb; clear hs hb hC2))
      have HS04 := Aside0.mk (Kd.S_below (Kd.S_drewN HS03.out nd2) HB4.out)
      have HS14 := Aside0.mk (Kd.S_below (Kd.S_drewN HS3.out nd2) HB4.out)
      go_upto_region 17 with (first | (go_at_call 6; (with_reducible refine (laws_eqIntSS.calls k B2 d2 x1 B0 d0 x0 true _ (Kd.S_reads' HS4.out).2.2 hd2 (Kd.S_reads' HS04.out).2.2 hd0 A3.out).mono ?_); rintro e w' ⟨rfl, ⟨nd3, rfl⟩⟩))
      go_wp2_with (first | (go_at_call 8; (with_reducible refine (CT.out _ _ _ (Kd.S_drewN HS14.out nd3)).mono ?_); rintro e w' ⟨rfl, ⟨nd4, rfl⟩⟩))
      go_ret
      exact ⟨rfl, by (with_reducible repeat (first | apply pw_below_drewN | apply below_drew1)); exact below_step (pw_below_drewN HB3.out _) HB4.out⟩
    · rw [if_neg hq] at h; cases h

end Go.Proofs.Ytjnkcgddalbojaa.PA
