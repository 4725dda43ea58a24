import Derived.Test.YtbklomnlhpbhnaaA20
import Derived.Test.YtbklomnlhpbhnaaA24
import Derived.ChangeSlices
/-! Pairs, triples and bytes that come in, opened. -/
namespace Go.Proofs.Ytbklomnlhpbhnaa
open Go.ChangeShapes Go.WideShapes Go.ChangeAt Go.RowKit
set_option linter.unusedVariables false
theorem u8_wf {n : Int} (h : (Lit.int .u8 n).wf = true) : 0 ≤ n ∧ n ≤ 255 := by
  simp [Lit.wf, IntKind.min, IntKind.max, IntKind.signed, IntKind.bits] at h; omega
theorem u32_wf {n : Int} (h : (Lit.int .u32 n).wf = true) : 0 ≤ n ∧ n < 4294967296 := by
  simp [Lit.wf, IntKind.min, IntKind.max, IntKind.signed, IntKind.bits] at h; omega
section
variable {H : Type} {enc : TypeId × Value → H} {w : World} {base : Nat} {spare : Nat → Bool} {held : Bool}
theorem open_two8 {r : Reach} {b0 : Nat} {v : Value} {d : DataW H} {p : List MemPlace} (hv : Value.okWide Try.prog w r b0 22 v) (h : DataW.Trod enc Try.prog w base spare held 22 v d p) :
    ∃ (n0 n1 : Int), v = .agg #[.int .u8 n0, .int .u8 n1] ∧ (0 ≤ n0 ∧ n0 ≤ 255) ∧ (0 ≤ n1 ∧ n1 ≤ 255) := by
  have hs := Try.underlying22
  have hc : Try.prog.cellsOf 5 = 1 := by kernel_rfl
  have hC : Try.prog.cellsOf 22 = 2 := by kernel_rfl
  simp only [Value.okWide, hs] at hv
  obtain ⟨cs, rfl, hsz, _⟩ := hv
  obtain ⟨l⟩ := cs
  match l, hsz.trans hC with
  | [u0, u1], _ =>
    obtain ⟨fuel, hf⟩ := h
    obtain ⟨xs, m, _, hx, _, hlen, hg⟩ := DataW.trod_array hs hf
    match xs, hlen with
    | [y0, y1], _ =>
      have g0 := hg 0 (by omega)
      simp [Value.cells, hc] at g0
      obtain ⟨n0, e0, _, w0⟩ := DataW.trod_int Try.underlying5 g0
      have g1 := hg 1 (by omega)
      simp [Value.cells, hc] at g1
      obtain ⟨n1, e1, _, w1⟩ := DataW.trod_int Try.underlying5 g1
      simp only [List.cons.injEq, and_true] at e0 e1
      subst e0 e1
      exact ⟨n0, n1, rfl, u8_wf w0, u8_wf w1⟩
theorem open_two32 {r : Reach} {b0 : Nat} {v : Value} {d : DataW H} {p : List MemPlace} (hv : Value.okWide Try.prog w r b0 24 v) (h : DataW.Trod enc Try.prog w base spare held 24 v d p) :
    ∃ (n0 n1 : Int), v = .agg #[.int .u32 n0, .int .u32 n1] ∧ (0 ≤ n0 ∧ n0 < 4294967296) ∧ (0 ≤ n1 ∧ n1 < 4294967296) := by
  have hs := Try.underlying24
  have hc : Try.prog.cellsOf 23 = 1 := by kernel_rfl
  have hC : Try.prog.cellsOf 24 = 2 := by kernel_rfl
  simp only [Value.okWide, hs] at hv
  obtain ⟨cs, rfl, hsz, _⟩ := hv
  obtain ⟨l⟩ := cs
  match l, hsz.trans hC with
  | [u0, u1], _ =>
    obtain ⟨fuel, hf⟩ := h
    obtain ⟨xs, m, _, hx, _, hlen, hg⟩ := DataW.trod_array hs hf
    match xs, hlen with
    | [y0, y1], _ =>
      have g0 := hg 0 (by omega)
      simp [Value.cells, hc] at g0
      obtain ⟨n0, e0, _, w0⟩ := DataW.trod_int Try.underlying23 g0
      have g1 := hg 1 (by omega)
      simp [Value.cells, hc] at g1
      obtain ⟨n1, e1, _, w1⟩ := DataW.trod_int Try.underlying23 g1
      simp only [List.cons.injEq, and_true] at e0 e1
      subst e0 e1
      exact ⟨n0, n1, rfl, u32_wf w0, u32_wf w1⟩
theorem open_three8 {r : Reach} {b0 : Nat} {v : Value} {d : DataW H} {p : List MemPlace} (hv : Value.okWide Try.prog w r b0 47 v) (h : DataW.Trod enc Try.prog w base spare held 47 v d p) :
    ∃ (n0 n1 n2 : Int), v = .agg #[.int .u8 n0, .int .u8 n1, .int .u8 n2] ∧ (0 ≤ n0 ∧ n0 ≤ 255) ∧ (0 ≤ n1 ∧ n1 ≤ 255) ∧ (0 ≤ n2 ∧ n2 ≤ 255) := by
  have hs := Try.underlying47
  have hc : Try.prog.cellsOf 5 = 1 := by kernel_rfl
  have hC : Try.prog.cellsOf 47 = 3 := by kernel_rfl
  simp only [Value.okWide, hs] at hv
  obtain ⟨cs, rfl, hsz, _⟩ := hv
  obtain ⟨l⟩ := cs
  match l, hsz.trans hC with
  | [u0, u1, u2], _ =>
    obtain ⟨fuel, hf⟩ := h
    obtain ⟨xs, m, _, hx, _, hlen, hg⟩ := DataW.trod_array hs hf
    match xs, hlen with
    | [y0, y1, y2], _ =>
      have g0 := hg 0 (by omega)
      simp [Value.cells, hc] at g0
      obtain ⟨n0, e0, _, w0⟩ := DataW.trod_int Try.underlying5 g0
      have g1 := hg 1 (by omega)
      simp [Value.cells, hc] at g1
      obtain ⟨n1, e1, _, w1⟩ := DataW.trod_int Try.underlying5 g1
      have g2 := hg 2 (by omega)
      simp [Value.cells, hc] at g2
      obtain ⟨n2, e2, _, w2⟩ := DataW.trod_int Try.underlying5 g2
      simp only [List.cons.injEq, and_true] at e0 e1 e2
      subst e0 e1 e2
      exact ⟨n0, n1, n2, rfl, u8_wf w0, u8_wf w1, u8_wf w2⟩

theorem open_bytes {r : Reach} {b0 : Nat} {v : Value} {d : DataW H} {p : List MemPlace} (hv : Value.okWide Try.prog w r b0 25 v) (h : DataW.Trod enc Try.prog w 0 (fun _ => true) true 25 v d p) :
    ∃ A n c bs, v = .slice A n c ∧ Bytes w A n bs ∧ n ≤ 9223372036854775807 := by
  obtain ⟨a0, len0, cap0, rfl⟩ := okWide_slice Try.underlying25 hv
  obtain ⟨fuel, hf⟩ := h
  rcases open_ints Try.underlying25 Try.underlying5 (by kernel_rfl) hf with ⟨hcs, _⟩ | ⟨x, l, c, zs, hcs, _, hl, hm, hz, _, hcell, hwz⟩
  · simp [Value.cells] at hcs
    obtain ⟨rfl, rfl, rfl⟩ := hcs
    exact ⟨none, 0, 0, fun _ => 0, rfl, fun h => absurd h (by omega), by omega⟩
  · simp [Value.cells] at hcs
    obtain ⟨rfl, rfl, rfl⟩ := hcs
    unfold maxLen at hm
    refine ⟨some x, len0, cap0, fun j => (zs.getD j 0).toNat, rfl, fun hn => ?_, by omega⟩
    have hzl : zs.length = cap0 := by simpa using hz
    obtain ⟨g, o, spot⟩ := x
    have h0 := hcell 0 (by omega)
    have hspot : spot = none := by simpa [Addr.add] using World.cell?_spot h0
    subst hspot
    refine ⟨g, o, rfl, ?_, fun j hj => ?_⟩
    · have : w.cell? ⟨g, o, none⟩ = some (.int .u8 (zs.getD 0 0)) := by simpa [Addr.add] using h0
      exact World.block_lt_of_cell? w ⟨g, o, none⟩ this
    · have hc := hcell j (by omega)
      have hj' : j < zs.length := by omega
      have hw := hwz (zs.getD j 0) (by rw [List.getD_eq_getElem?_getD, List.getElem?_eq_getElem hj', Option.getD_some]; exact List.getElem_mem hj')
      have hb := u8_wf hw
      have e : (⟨g, o, none⟩ : Addr).add j = ⟨g, o + j, none⟩ := by unfold Addr.add; split <;> simp_all
      rw [e] at hc
      refine ⟨?_, (by show (zs.getD j 0).toNat < 256; omega)⟩
      rw [hc]
      have : (((zs.getD j 0).toNat : Nat) : Int) = zs.getD j 0 := by omega
      rw [this]
end
end Go.Proofs.Ytbklomnlhpbhnaa
