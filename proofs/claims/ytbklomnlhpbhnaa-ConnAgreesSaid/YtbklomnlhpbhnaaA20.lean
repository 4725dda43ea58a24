import Derived.Test.YtbklomnlhpbhnaaRows
import Derived.Test.YtbklomnlhpbhnaaA2
import Derived.ProofKit
import Derived.OpenShut
import Derived.ChangeOld
import Derived.Lib.SmallJoins
import Derived.Deep.Fields
/-! What the rows of this seat share: an end by value, opened; pairs and triples of numbers by value, opened. -/
namespace Go.Proofs.Ytbklomnlhpbhnaa
open Go.ChangeShapes Go.WideShapes Go.ChangeAt Go.RowKit Go.Deep
set_option linter.unusedVariables false
theorem seatOwn : ownKnob Try.prog.godebug = none := by kernel_rfl
theorem seatLaid : laidOutB Try.prog = true := by kernel_rfl
section
variable {H : Type} {enc : TypeId × Value → H} {w : World} {base : Nat} {spare : Nat → Bool} {held : Bool}
/-- An end by value: eleven numbers. -/
theorem open_end {r : Reach} {b0 : Nat} {v : Value} {d : DataW H} {p : List MemPlace} (hv : Value.okWide Try.prog w r b0 27 v) (h : DataW.Trod enc Try.prog w base spare held 27 v d p) :
    ∃ (a b c d e f g h i j k : Int), v = (Value.agg #[.int .i64 a, .int .i64 b, .int .u32 c, .int .u32 d, .int .u32 e, .int .u32 f, .int .i64 g, .int .i64 h, .int .u8 i, .int .i64 j, .int .i64 k]) := by
  have hs := Try.underlying27
  have hc2 : Try.prog.cellsOf 2 = 1 := by kernel_rfl
  have hc3 : Try.prog.cellsOf 3 = 1 := by kernel_rfl
  have hc5 : Try.prog.cellsOf 5 = 1 := by kernel_rfl
  have hc23 : Try.prog.cellsOf 23 = 1 := by kernel_rfl
  have hC : Try.prog.cellsOf 27 = 11 := by kernel_rfl
  obtain ⟨cs, rfl, hsz⟩ := okWide_struct hs hv
  obtain ⟨l⟩ := cs
  match l, hsz.trans hC with
  | [u0, u1, u2, u3, u4, u5, u6, u7, u8, u9, u10], _ =>
    obtain ⟨fuel, hf⟩ := h
    obtain ⟨xs, n, _, hx, _, hlen, hg⟩ := DataW.trod_struct hs hf
    match xs, hlen with
    | [y0, y1, y2, y3, y4, y5, y6, y7, y8, y9, y10], _ =>
      have g0 := hg 0 _ rfl
      simp [Value.cells, hc3] at g0
      obtain ⟨n0, e0, _, _⟩ := DataW.trod_int Try.underlying3 g0
      have g1 := hg 1 _ rfl
      simp [Value.cells, hc3] at g1
      obtain ⟨n1, e1, _, _⟩ := DataW.trod_int Try.underlying3 g1
      have g2 := hg 2 _ rfl
      simp [Value.cells, hc23] at g2
      obtain ⟨n2, e2, _, _⟩ := DataW.trod_int Try.underlying23 g2
      have g3 := hg 3 _ rfl
      simp [Value.cells, hc23] at g3
      obtain ⟨n3, e3, _, _⟩ := DataW.trod_int Try.underlying23 g3
      have g4 := hg 4 _ rfl
      simp [Value.cells, hc23] at g4
      obtain ⟨n4, e4, _, _⟩ := DataW.trod_int Try.underlying23 g4
      have g5 := hg 5 _ rfl
      simp [Value.cells, hc23] at g5
      obtain ⟨n5, e5, _, _⟩ := DataW.trod_int Try.underlying23 g5
      have g6 := hg 6 _ rfl
      simp [Value.cells, hc3] at g6
      obtain ⟨n6, e6, _, _⟩ := DataW.trod_int Try.underlying3 g6
      have g7 := hg 7 _ rfl
      simp [Value.cells, hc3] at g7
      obtain ⟨n7, e7, _, _⟩ := DataW.trod_int Try.underlying3 g7
      have g8 := hg 8 _ rfl
      simp [Value.cells, hc5] at g8
      obtain ⟨n8, e8, _, _⟩ := DataW.trod_int Try.underlying5 g8
      have g9 := hg 9 _ rfl
      simp [Value.cells, hc2] at g9
      obtain ⟨n9, e9, _, _⟩ := DataW.trod_int Try.underlying2 g9
      have g10 := hg 10 _ rfl
      simp [Value.cells, hc3] at g10
      obtain ⟨n10, e10, _, _⟩ := DataW.trod_int Try.underlying3 g10
      simp only [List.cons.injEq, and_true] at e0 e1 e2 e3 e4 e5 e6 e7 e8 e9 e10
      subst e0 e1 e2 e3 e4 e5 e6 e7 e8 e9 e10
      exact ⟨n0, n1, n2, n3, n4, n5, n6, n7, n8, n9, n10, rfl⟩
end
end Go.Proofs.Ytbklomnlhpbhnaa
