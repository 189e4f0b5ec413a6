/- Printed by this session's drive.py (the kit's print.py with hooks): functions of the seat as plain Lean functions, and the proofs that the calls do what these say. -/
import Derived.Test.YtgdkedcahcpofaaPAx0
import Derived.Test.YtgdkedcahcpofaaPAx1
import Derived.Test.YtgdkedcahcpofaaPAx6
import Derived.Test.YtgdkedcahcpofaaPAx8
import Derived.Test.YtgdkedcahcpofaaPAx14
import Derived.Test.YtgdkedcahcpofaaPAx15
import Derived.Test.YtgdkedcahcpofaaPAx17
import Derived.Test.YtgdkedcahcpofaaPAx19
import Derived.Test.YtgdkedcahcpofaaPAx20
import Derived.Test.YtgdkedcahcpofaaPAx21
namespace Go.Proofs.Ytgdkedcahcpofaa.PA
open Go.RowKit Go.Proofs.YtgdkedcahcpofaaW.PrintWords Go.Proofs.YtgdkedcahcpofaaW.PrintLast Go.Proofs.YtgdkedcahcpofaaW.PrintMore
open Go.Proofs.YtgdkedcahcpofaaH
attribute [local go_sem] max2_int min2_int max_two min_two max_three min_three max_four min_four   -- for this text's walks alone
set_option linter.unusedVariables false
set_option linter.unusedSimpArgs false

/-! ### laws_FnExactPlayLeg: function 3 -/
-- by hand
def laws_FnExactPlayLeg.f (k : Nat) (a0 : Int) (l1 : (List (List (S51)))) : Option Bool := (laws_szDartSS.f k l1 1048576).bind fun t => if t < 0 then some true else (laws_toDartSS.f k l1).bind fun xs => (spec_PlayLeg.f k a0 xs).bind fun s => (impl_PlayLeg.f k a0 xs).bind fun g => if g.2 = s.2 then ((laws_eqIntS.f k g.1 s.1).bind fun e1 => (laws_eqDartSS.f k xs xs).bind fun e2 => if e1 = true ∧ e2 = true then ((laws_markDartSS.f k xs 1).bind fun m => (laws_markIntS.f k g.1 1).bind fun n => (laws_heldIntS.f k n.2 1).bind fun q => if 0 ≤ m.1 ∧ 0 ≤ q ∧ q = n.1 then some true else none) else none) else none
set_option maxHeartbeats 16000000 in
set_option maxRecDepth 100000 in
theorem laws_FnExactPlayLeg.calls (k : Nat) (a0 : Int) (A1 : Option Addr) (c1 : Nat) (l1 : (List (List (S51)))) (r : Bool) (w : World) (hr1 : Kd.C (Kd.slice 51 k51) w A1 l1.length l1) (hc1 : l1.length ≤ c1) (h : laws_FnExactPlayLeg.f k a0 l1 = some r) :
    Calls Try.prog 3 #[.int .i64 a0, .slice A1 l1.length c1] w fun e w' => e = .returned (.bool r) ∧ Below w.heap.size w w' := by
  have HR := Aside0.mk hr1
  have HC := Aside0.mk hc1
  have H := Aside0.mk h
  clear hr1 hc1 h
  obtain ⟨t, A0, h⟩ := Option.bind_eq_some_iff.mp H.out
  have A0 := Aside0.mk A0
  clear H
  by_cases ht : t < 0
  · rw [if_pos ht] at h
    cases h
    have c0 : decide (t < 0) = true := decide_eq_true ht
    clear ht
    go_enter Try.func3, Try.ntmps3
    go_wp2_with (first | (go_at_call 4; (with_reducible refine (laws_szDartSS.calls k A1 c1 l1 1048576 t _ HR.out HC.out A0.out).mono ?_); rintro e w' ⟨rfl, ⟨nd0, rfl⟩⟩))
    go_ret
    exact ⟨rfl, pw_below_drewN (Below.refl _ _) nd0⟩
  · rw [if_neg ht] at h
    have c0 : decide (t < 0) = false := decide_eq_false ht
    clear ht
    obtain ⟨xs, A1_, h1_⟩ := Option.bind_eq_some_iff.mp h
    clear h
    obtain ⟨⟨s1, s2⟩, A2, h2_⟩ := Option.bind_eq_some_iff.mp h1_
    clear h1_
    obtain ⟨⟨g1, g2⟩, A3, h3_⟩ := Option.bind_eq_some_iff.mp h2_
    clear h2_
    by_cases hg : g2 = s2
    · rw [if_pos hg] at h3_
      subst hg
      obtain ⟨e1, A4, h4_⟩ := Option.bind_eq_some_iff.mp h3_
      clear h3_
      obtain ⟨e2, A5, h5_⟩ := Option.bind_eq_some_iff.mp h4_
      clear h4_
      by_cases he : e1 = true ∧ e2 = true
      · rw [if_pos he] at h5_
        obtain ⟨rfl, rfl⟩ := he
        obtain ⟨⟨m1, m2⟩, A6, h6_⟩ := Option.bind_eq_some_iff.mp h5_
        clear h5_
        obtain ⟨⟨n1, n2⟩, A7, h7_⟩ := Option.bind_eq_some_iff.mp h6_
        clear h6_
        obtain ⟨q, A8, h⟩ := Option.bind_eq_some_iff.mp h7_
        clear h7_
        by_cases hq : 0 ≤ m1 ∧ 0 ≤ q ∧ q = n1
        · rw [if_pos hq] at h
          cases h
          obtain ⟨hm0, hq0, rfl⟩ := hq
          have A1_ := Aside0.mk A1_
          have A2 := Aside0.mk A2
          have A3 := Aside0.mk A3
          have A4 := Aside0.mk (show laws_eqIntS.f k g1 s1 = some true from A4)
          have A5 := Aside0.mk A5
          have A6 := Aside0.mk A6
          have A7 := Aside0.mk (show laws_markIntS.f k g1 1 = some (q, n2) from A7)
          have A8 := Aside0.mk (show laws_heldIntS.f k n2 1 = some q from A8)
          have c1_ : decide (q < 0) = false := decide_eq_false (by omega)
          have c2_ : decide (m1 < 0) = false := decide_eq_false (by omega)
          have c3_ : decide (q = q) = true := decide_eq_true rfl
          clear hm0 hq0
          go_enter Try.func3, Try.ntmps3
          go_upto_region 3 with (first | (go_at_call 4; (with_reducible refine (laws_szDartSS.calls k A1 c1 l1 1048576 t _ HR.out HC.out A0.out).mono ?_); rintro e w' ⟨rfl, ⟨nd0, rfl⟩⟩))
          go_upto_region 6 with (first | (go_at_call 6; (with_reducible refine (laws_toDartSS.calls k A1 c1 l1 xs _ (Kd.C_drewN HR.out nd0) HC.out A1_.out).mono ?_); rintro e w1 ⟨v0, rfl, hs, hb⟩; obtain ⟨Ba, da, rfl, hda, hCa⟩ := Kd.S_reads hs; have HSa := Aside0.mk hs; have HB1 := Aside0.mk hb; have HDa := Aside0.mk hda; have HCa := Aside0.mk hCa; clear hs hb hCa hda) | (go_at_call 5; (with_reducible refine (spec_PlayLeg.calls k a0 Ba da xs s1 g2 _ HCa.out HDa.out A2.out).mono ?_); rintro e w2 ⟨v1, rfl, hs, hb⟩; obtain ⟨Bs, ds, rfl, hds, hCs⟩ := Kd.R_reads hs; have HRs := Aside0.mk hs; have HB2 := Aside0.mk hb; have HDs := Aside0.mk hds; clear hs hb hCs hds))
          have hb2 := Aside0.mk (below_step (below_step (pw_below_drewN (Below.refl w.heap.size w) nd0) HB1.out) HB2.out)
          go_upto_region 7 with (first | (go_at_call 6; (with_reducible refine (laws_toDartSS.calls k A1 c1 l1 xs _ (Kd.C_below HR.out hb2.out) HC.out A1_.out).mono ?_); rintro e w3 ⟨v2, rfl, hs, hb⟩; obtain ⟨Bx, dx, rfl, hdx, hCx⟩ := Kd.S_reads hs; have HSx := Aside0.mk hs; have HB3 := Aside0.mk hb; have HDx := Aside0.mk hdx; have HCx := Aside0.mk hCx; clear hs hb hCx hdx))
          have hb3 := Aside0.mk (below_step hb2.out HB3.out)
          go_upto_region 8 with (first | (go_at_call 7; (with_reducible refine (impl_PlayLeg.calls k a0 Bx dx xs g1 g2 _ HCx.out HDx.out A3.out).mono ?_); rintro e w4 ⟨v3, rfl, hs, hb⟩; obtain ⟨Bg, dg, rfl, hdg, hCg⟩ := Kd.R_reads hs; have HRg := Aside0.mk hs; have HB4 := Aside0.mk hb; have HDg := Aside0.mk hdg; clear hs hb hCg hdg))
          have hb4 := Aside0.mk (below_step hb3.out HB4.out)
          have HRs4 := Aside0.mk (Kd.R_below (Kd.R_old HRs.out HB3.out) HB4.out)
          have HSx4 := Aside0.mk (Kd.S_old HSx.out HB4.out)
          go_upto_region 10 with (first | (go_at_call 8; (with_reducible refine (laws_eqIntS.calls k Bg dg g1 Bs ds s1 true _ (Kd.R_reads' HRg.out).2.2 HDg.out (Kd.R_reads' HRs4.out).2.2 HDs.out A4.out).mono ?_); rintro e w' ⟨rfl, ⟨nd1, rfl⟩⟩))
          have hb4n := Aside0.mk (pw_below_drewN hb4.out nd1)
          go_upto_region 13 with (first | (go_at_call 6; (with_reducible refine (laws_toDartSS.calls k A1 c1 l1 xs _ (Kd.C_below HR.out hb4n.out) HC.out A1_.out).mono ?_); rintro e w5 ⟨v4, rfl, hs, hb⟩; obtain ⟨By, dy, rfl, hdy, hCy⟩ := Kd.S_reads hs; have HB5 := Aside0.mk hb; have HDy := Aside0.mk hdy; have HCy := Aside0.mk hCy; clear hs hb hCy hdy; have HSx5 := Aside0.mk (Kd.S_below (Kd.S_drewN HSx4.out nd1) HB5.out)) | (go_at_call 9; (with_reducible refine (laws_eqDartSS.calls k Bx dx xs By dy xs true _ (Kd.S_reads' HSx5.out).2.2 HDx.out HCy.out HDy.out A5.out).mono ?_); rintro e w6 ⟨rfl, hb⟩; have HB6 := Aside0.mk hb; clear hb))
          have hb6 := Aside0.mk (below_step (below_step hb4n.out HB5.out) HB6.out)
          have hle2 : w.heap.size ≤ w2.heap.size := hb2.out.size
          have hle3 : w.heap.size ≤ w3.heap.size := hb3.out.size
          have hle23 : w2.heap.size ≤ w3.heap.size := HB3.out.size
          have HSx6 : Aside0 (Kd.S (Kd.slice 49 k49) 37 w6 w.heap.size (fun k_ => w2.heap.size ≤ k_ ∧ k_ < w3.heap.size) (.slice Bx xs.length dx) xs) := ⟨Kd.S_below (Kd.S_lower (Kd.S_mono (Kd.S_bound HSx5.out) (fun k_ hk => ⟨hk.2.1, hk.1.2⟩)) hle2) HB6.out⟩
          have HRs6 := Aside0.mk (Kd.R_below (Kd.R_below (Kd.R_drewN HRs4.out nd1) HB5.out) HB6.out)
          have HRg6 : Aside0 (Kd.R (Kd.int .i64) 3 w6 w.heap.size (fun k_ => w3.heap.size ≤ k_) (.slice Bg g1.length dg) g1) := ⟨Kd.R_below (Kd.R_below (Kd.R_drewN (Kd.R_lower (Kd.R_mono (Kd.R_bound HRg.out) (fun k_ hk => hk.2.1)) hle3) nd1) HB5.out) HB6.out⟩
          go_upto_region 14 with (first | (go_at_call 10; (with_reducible refine (laws_markDartSS.calls k (fun k_ => w2.heap.size ≤ k_ ∧ k_ < w3.heap.size) (.slice Bx xs.length dx) xs 1 m1 m2 w _ hb6.out HSx6.out A6.out).mono ?_); rintro e w7 ⟨rfl, hs, hb, hk⟩; have HB7 := Aside0.mk hb; have HK7 := Aside0.mk hk; clear hs hb hk))
          have HRs7 := Aside0.mk (Kd.R_kept HRs6.out HK7.out (fun k_ hk hh => absurd hk.2 (Nat.not_lt.2 hh.1)))
          have HRg7 := Aside0.mk (Kd.R_kept HRg6.out HK7.out (fun k_ hk hh => absurd hh.2 (Nat.not_lt.2 hk)))
          go_upto_region 17 with (first | (go_at_call 8; (with_reducible refine (laws_eqIntS.calls k Bg dg g1 Bs ds s1 true _ (Kd.R_reads' HRg7.out).2.2 HDg.out (Kd.R_reads' HRs7.out).2.2 HDs.out A4.out).mono ?_); rintro e w' ⟨rfl, ⟨nd2, rfl⟩⟩))
          have HRg7n := Aside0.mk (Kd.R_drewN HRg7.out nd2)
          have hb7n := Aside0.mk (pw_below_drewN HB7.out nd2)
          go_upto_region 19 with (first | (go_at_call 11; (with_reducible refine (laws_markIntS.calls k (fun k_ => w3.heap.size ≤ k_) (.slice Bg g1.length dg) g1 1 q n2 w _ hb7n.out HRg7n.out A7.out).mono ?_); rintro e w8 ⟨rfl, hs, hb, hk⟩; have HRg8 := Aside0.mk hs; have HB8 := Aside0.mk hb; have HK8 := Aside0.mk hk; clear hs hb hk))
          have HRs8 := Aside0.mk (Kd.R_kept (Kd.R_drewN HRs7.out nd2) HK8.out (fun k_ hk hh => absurd hk.2 (Nat.not_lt.2 (Nat.le_trans hle23 hh))))
          have CT := Aside0.mk (show ∀ (W : World) (B : Nat) (P : Nat → Prop), Kd.R (Kd.int .i64) 3 W B P (.slice Bg g1.length dg) n2 → Calls Try.prog 12 #[.slice Bg g1.length dg, .int .i64 1] W fun e w' => e = .returned (.int .i64 q) ∧ Drawn0 W w' from by
            intro W B P hS
            obtain ⟨e1, e2, e3⟩ := Kd.R_reads' hS
            rw [e1] at e2 ⊢
            exact laws_heldIntS.calls k Bg dg n2 1 q W e3 e2 A8.out)
          go_upto_region 24 with (first | (go_at_call 12; (with_reducible refine (CT.out _ _ _ HRg8.out).mono ?_); rintro e w' ⟨rfl, ⟨nd3, rfl⟩⟩))
          have hb8n := Aside0.mk (pw_below_drewN HB8.out nd3)
          go_upto_region 25 with (first | (go_at_call 6; (with_reducible refine (laws_toDartSS.calls k A1 c1 l1 xs _ (Kd.C_below HR.out hb8n.out) HC.out A1_.out).mono ?_); rintro e w9 ⟨v5, rfl, hs, hb⟩; obtain ⟨Bz, dz, rfl, hdz, hCz⟩ := Kd.S_reads hs; have HB9 := Aside0.mk hb; have HDz := Aside0.mk hdz; have HCz := Aside0.mk hCz; clear hs hb hCz hdz) | (go_at_call 7; (with_reducible refine (impl_PlayLeg.calls k a0 Bz dz xs g1 g2 _ HCz.out HDz.out A3.out).mono ?_); rintro e w10 ⟨v6, rfl, hs, hb⟩; obtain ⟨Bh, dh, rfl, hdh, hCh⟩ := Kd.R_reads hs; have HRh := Aside0.mk hs; have HB10 := Aside0.mk hb; have HDh := Aside0.mk hdh; clear hs hb hCh hdh))
          have HRs10 := Aside0.mk (Kd.R_below (Kd.R_below (Kd.R_drewN HRs8.out nd3) HB9.out) HB10.out)
          have HRg10 := Aside0.mk (Kd.R_below (Kd.R_below (Kd.R_drewN HRg8.out nd3) HB9.out) HB10.out)
          go_upto_region 28 with (first | (go_at_call 8; (with_reducible refine (laws_eqIntS.calls k Bh dh g1 Bs ds s1 true _ (Kd.R_reads' HRh.out).2.2 HDh.out (Kd.R_reads' HRs10.out).2.2 HDs.out A4.out).mono ?_); rintro e w' ⟨rfl, ⟨nd4, rfl⟩⟩))
          go_wp2_with (first | (go_at_call 12; (with_reducible refine (CT.out _ _ _ (Kd.R_drewN HRg10.out nd4)).mono ?_); rintro e w' ⟨rfl, ⟨nd5, rfl⟩⟩))
          go_ret
          exact ⟨rfl, by (with_reducible repeat (first | apply pw_below_drewN | apply below_drew1)); exact below_step (below_step hb8n.out HB9.out) HB10.out⟩
        · rw [if_neg hq] at h; cases h
      · rw [if_neg he] at h5_; cases h5_
    · rw [if_neg hg] at h3_; cases h3_

end Go.Proofs.Ytgdkedcahcpofaa.PA
