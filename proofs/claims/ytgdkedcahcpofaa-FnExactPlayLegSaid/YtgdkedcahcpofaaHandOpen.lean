/- Words of this session's own for a row's arguments: what reads as data of a type is a value of a kind, whatever the nesting; slices are no longer than their weight allows. -/
import Derived.Test.YtgdkedcahcpofaaWWords
import Derived.ChangeArms
import Derived.Deep.Slices
import Derived.Deep.Fields
import Derived.SizedLaws
import Derived.ChangeOld
import Derived.RowKit3
namespace Go.Proofs.YtgdkedcahcpofaaH
open Go.RowKit Go.ChangeShapes Go.WideShapes Go.Proofs.YtgdkedcahcpofaaW.PrintWords
/-- The cells of a plain datum. -/
def flat1 {H : Type} : DataW H → List Value
  | .lit (.int k n) => [.int k n]
  | _ => []
def flat2 {H : Type} : DataW H → List Value
  | .agg ps => ps.flatMap flat1
  | d => flat1 d
def flat3 {H : Type} : DataW H → List Value
  | .agg ps => ps.flatMap flat2
  | d => flat2 d
section
variable {P : Program}
def Opn (P : Program) {α : Type} (d : Kd α) (t : TypeId) (g : α → Prop) : Prop :=
  ∀ (H : Type) (enc : TypeId × Value → H) (w : World) (held : Bool) (n : Nat) (cs : List Value) (x : DataW H × List MemPlace),
    DataW.trod enc P w 0 (fun _ => true) held n t cs = some x → ∃ v : α, d.K w v cs ∧ g v
theorem Opn.int {k : IntKind} {t : TypeId} (hu : P.underlying t = some (.int k)) : Opn P (Kd.int k) t (fun a => (Lit.int k a).wf = true) := by
  intro H enc w held n cs x h
  obtain ⟨a, rfl, _, hw⟩ := DataW.trod_int hu h
  exact ⟨a, rfl, hw⟩
theorem Opn.bool {t : TypeId} (hu : P.underlying t = some .bool) : Opn P Kd.bool t (fun _ => True) := by
  intro H enc w held n cs x h
  obtain ⟨a, rfl, _⟩ := DataW.trod_bool hu h
  exact ⟨a, rfl, trivial⟩
theorem Opn.string {t : TypeId} (hu : P.underlying t = some .string) : Opn P Kd.string t (fun s => s.size ≤ maxLen) := by
  intro H enc w held n cs x h
  obtain ⟨a, rfl, _, hw⟩ := DataW.trod_string hu h
  exact ⟨a, rfl, hw⟩
theorem Opn.struct2 {t : TypeId} {f0 f1 : Field} {α β γ : Type} {d0 : Kd α} {d1 : Kd β} {g0 : α → Prop} {g1 : β → Prop} (hu : P.underlying t = some (.struct #[f0, f1])) (hone : Go.Deep.oneCellFields P #[f0, f1] = true) (hC : P.cellsOf t = 2)
    (h0 : Opn P d0 f0.type g0) (h1 : Opn P d1 f1.type g1) (f : γ → α × β) (b : α → β → γ) (hb : ∀ x y, f (b x y) = (x, y)) : Opn P (Kd.iso (Kd.pair d0 d1) f) t (fun x => g0 (f x).1 ∧ g1 (f x).2) := by
  intro H enc w held n cs x h
  obtain ⟨xs, n', _, _, hlen, hsz, hf⟩ := DataW.trod_struct hu h
  obtain ⟨o0, k0⟩ := Go.Deep.hone_of hone 0 f0 rfl
  obtain ⟨o1, k1⟩ := Go.Deep.hone_of hone 1 f1 rfl
  have e0 := hf 0 f0 rfl
  have e1 := hf 1 f1 rfl
  rw [hC] at hlen
  rw [o0, k0] at e0
  rw [o1, k1] at e1
  match cs, hlen, xs, hsz with
  | [c0, c1], _, [y0, y1], _ =>
    obtain ⟨v0, K0, G0⟩ := h0 H enc w held n' [c0] y0 (by simpa using e0)
    obtain ⟨v1, K1, G1⟩ := h1 H enc w held n' [c1] y1 (by simpa using e1)
    refine ⟨b v0 v1, ?_, ?_⟩
    · show (Kd.pair d0 d1).K w (f (b v0 v1)) [c0, c1]
      rw [hb]
      exact ⟨[c0], [c1], rfl, K0, K1⟩
    · show g0 (f (b v0 v1)).1 ∧ g1 (f (b v0 v1)).2
      rw [hb]; exact ⟨G0, G1⟩
theorem Opn.struct3 {t : TypeId} {f0 f1 f2 : Field} {α β γ δ : Type} {d0 : Kd α} {d1 : Kd β} {d2 : Kd γ} {g0 : α → Prop} {g1 : β → Prop} {g2 : γ → Prop} (hu : P.underlying t = some (.struct #[f0, f1, f2])) (hone : Go.Deep.oneCellFields P #[f0, f1, f2] = true) (hC : P.cellsOf t = 3)
    (h0 : Opn P d0 f0.type g0) (h1 : Opn P d1 f1.type g1) (h2 : Opn P d2 f2.type g2) (f : δ → α × β × γ) (b : α → β → γ → δ) (hb : ∀ x y z, f (b x y z) = (x, y, z)) : Opn P (Kd.iso (Kd.pair d0 (Kd.pair d1 d2)) f) t (fun x => g0 (f x).1 ∧ g1 (f x).2.1 ∧ g2 (f x).2.2) := by
  intro H enc w held n cs x h
  obtain ⟨xs, n', _, _, hlen, hsz, hf⟩ := DataW.trod_struct hu h
  obtain ⟨o0, k0⟩ := Go.Deep.hone_of hone 0 f0 rfl
  obtain ⟨o1, k1⟩ := Go.Deep.hone_of hone 1 f1 rfl
  obtain ⟨o2, k2⟩ := Go.Deep.hone_of hone 2 f2 rfl
  have e0 := hf 0 f0 rfl
  have e1 := hf 1 f1 rfl
  have e2 := hf 2 f2 rfl
  rw [hC] at hlen
  rw [o0, k0] at e0
  rw [o1, k1] at e1
  rw [o2, k2] at e2
  match cs, hlen, xs, hsz with
  | [c0, c1, c2], _, [y0, y1, y2], _ =>
    obtain ⟨v0, K0, G0⟩ := h0 H enc w held n' [c0] y0 (by simpa using e0)
    obtain ⟨v1, K1, G1⟩ := h1 H enc w held n' [c1] y1 (by simpa using e1)
    obtain ⟨v2, K2, G2⟩ := h2 H enc w held n' [c2] y2 (by simpa using e2)
    refine ⟨b v0 v1 v2, ?_, ?_⟩
    · show (Kd.pair d0 (Kd.pair d1 d2)).K w (f (b v0 v1 v2)) [c0, c1, c2]
      rw [hb]
      exact ⟨[c0], [c1, c2], rfl, K0, [c1], [c2], rfl, K1, K2⟩
    · show g0 (f (b v0 v1 v2)).1 ∧ g1 (f (b v0 v1 v2)).2.1 ∧ g2 (f (b v0 v1 v2)).2.2
      rw [hb]; exact ⟨G0, G1, G2⟩
theorem Opn.slice {α : Type} {d : Kd α} {e t : TypeId} {g : α → Prop} (hu : P.underlying t = some (.slice e)) (hc : P.cellsOf e = d.sz) (h : Opn P d e g) : Opn P (Kd.slice e d) t (fun xs => xs.length ≤ maxLen ∧ ∀ x ∈ xs, g x) := by
  intro H enc w held n cs x hx
  rcases Go.Deep.open_slice hu hx with ⟨rfl, _⟩ | ⟨a, len, cap, m, n', D, Pl, rfl, _, hl, hm, hmm, _, hi⟩
  · exact ⟨[], ⟨none, 0, rfl, Nat.le_refl _, rfl, by simp, fun h => absurd h (by simp)⟩, by simp [maxLen], fun x hx => (List.not_mem_nil hx).elim⟩
  · have hm2 : m = cap := by simpa using hmm
    have hall : ∀ i, i < len → ∃ (v : α) (c : List Value), c.length = d.sz ∧ d.K w v c ∧ g v ∧ ∀ j u, c[j]? = some u → w.cell? (a.add (i * d.sz + j)) = some u := by
      intro i hil
      obtain ⟨cs', hc', ht⟩ := hi i (by omega)
      obtain ⟨v, hK, hg⟩ := h H enc w held n' cs' _ ht
      obtain ⟨_, hcl, hat⟩ := World.cells?_some hc'
      refine ⟨v, cs', by rw [hcl, hc], hK, hg, fun j u hj => ?_⟩
      have hjl : j < P.cellsOf e := by rw [← hcl]; exact (List.getElem?_eq_some_iff.1 hj).1
      have h3 := hat j hjl
      rw [hc, Go.Deep.add_add] at h3
      rw [h3, hj]
    have key : ∀ k, k ≤ len → ∃ xs : List α, xs.length = k ∧ (∀ x ∈ xs, g x) ∧ ∀ j p, xs[j]? = some p → ∃ c, c.length = d.sz ∧ d.K w p c ∧ ∀ i u, c[i]? = some u → w.cell? (a.add (j * d.sz + i)) = some u := by
      intro k
      induction k with
      | zero => exact fun _ => ⟨[], rfl, ⟨fun x hx => (List.not_mem_nil hx).elim, fun j p hj => by simp at hj⟩⟩
      | succ k ih =>
        intro hk
        obtain ⟨xs, hxl, hxg, hxs⟩ := ih (by omega)
        obtain ⟨v, c, h1, h2, h3, h4⟩ := hall k (by omega)
        refine ⟨xs ++ [v], by simp [hxl], fun x hx => ?_, fun j p hj => ?_⟩
        · rcases List.mem_append.1 hx with hx | hx
          · exact hxg x hx
          · rw [List.mem_singleton.1 hx]; exact h3
        · rcases Nat.lt_or_ge j k with hjk | hjk
          · rw [List.getElem?_append_left (by omega)] at hj
            exact hxs j p hj
          · have hj2 : j = k := by
              have := (List.getElem?_eq_some_iff.1 hj).1
              simp at this; omega
            subst hj2
            obtain rfl : v = p := by simpa [← hxl] using hj
            exact ⟨c, h1, h2, h4⟩
    obtain ⟨xs, hxl, hxg, hxs⟩ := key len (Nat.le_refl _)
    subst hxl
    have hml : maxLen = 9223372036854775807 := rfl
    exact ⟨xs, ⟨some a, cap, rfl, hl, rfl, by omega, fun _ => ⟨a, rfl, hxs⟩⟩, by omega, hxg⟩
/-- A row's slice is no longer than its weight allows. -/
theorem sized_any {H : Type} {enc : TypeId × Value → H} {W : World} {held : Bool} {t e : TypeId} {a : Option Addr} {len cap : Nat} {d : DataW H} {ps : List MemPlace} {ts : List TypeId} {ds : List (DataW H)} {j : Nat}
    (hsz : (DataW.weightsEach P ts ds).all (· ≤ reachBytes) = true) (ht : ts[j]? = some t) (hd : ds[j]? = some d) (hu : P.underlying t = some (.slice e)) {B : Nat} (hB : P.bytesOf e = B)
    (h : DataW.Trod enc P W 0 (fun _ => true) held t (.slice a len cap) d ps) : len * B ≤ 140737488351232 := by
  obtain ⟨fuel, hf⟩ := h
  rcases Go.Deep.open_slice hu hf with ⟨hcs, _⟩ | ⟨x, l, c, m, n', D, Pl, hcs, _, hl, hm, hmm, hx, hi⟩
  · simp [Value.cells] at hcs
    obtain ⟨rfl, rfl, rfl⟩ := hcs
    simp
  · simp [Value.cells] at hcs
    obtain ⟨rfl, rfl, rfl⟩ := hcs
    obtain ⟨hx, _⟩ := Prod.mk.inj hx
    subst hx
    have z := sized_slice hsz ht hd hu
    rw [hB] at z
    simp only [List.length_map, List.length_range] at z
    exact Nat.le_trans (Nat.mul_le_mul_right _ (Nat.le_add_right _ _)) z
end
end Go.Proofs.YtgdkedcahcpofaaH
