import Derived.Test.YtbklomnlhpbhnaaA11
namespace Go.Proofs.Ytbklomnlhpbhnaa
open Go.RowKit
set_option linter.unusedSimpArgs false

theorem Segs.below {w W : World} {B : Nat} {v : Value} {l : List H} (h : Segs w B v l) (hb : Below w.heap.size w W) : Segs W B v l := by
  refine ⟨h.1, ?_⟩
  rcases h.2 with h2 | ⟨g, cap, cur, hv, hB, hh, r⟩
  · exact .inl h2
  · refine .inr ⟨g, cap, cur, hv, hB, ?_, r⟩
    have hg : g < w.heap.size := (Array.getElem?_eq_some_iff.1 hh).1
    exact (hb.block g hg).trans hh
/-- A list of no segment: a slice of length 0. -/
theorem Segs.nil_form {w : World} {B : Nat} {v : Value} (h : Segs w B v []) : ∃ a c, v = .slice a 0 c := by
  rcases h.2 with ⟨rfl, _⟩ | ⟨g, cap, cur, rfl, _⟩
  · exact ⟨none, 0, rfl⟩
  · exact ⟨_, cap, rfl⟩
/-- A list of one segment: its slice, and its cells. -/
theorem Segs.one_form {w : World} {B : Nat} {v : Value} {x : H} (h : Segs w B v [x]) : ∃ g cap, v = .slice (some ⟨g, 0, none⟩) 1 cap ∧ B ≤ g ∧ ∀ i u, x.cells[i]? = some u → w.cell? ⟨g, i, none⟩ = some u := by
  rcases h.2 with ⟨_, h0⟩ | ⟨g, cap, cur, rfl, hB, hh, h1, h2, h3, h4⟩
  · simp at h0
  · refine ⟨g, cap, rfl, hB, fun i u hu => ?_⟩
    have hx : cur.toList.take 10 = x.cells := by simpa using h4
    have hc : cur[i]? = some u := by
      have hi : i < 10 := by
        rcases Nat.lt_or_ge i 10 with q | q
        · exact q
        · have : x.cells[i]? = none := List.getElem?_eq_none (by simpa [H.cells] using q)
          rw [this] at hu; cases hu
      rw [← hx, List.getElem?_take] at hu
      rw [if_pos hi] at hu
      simpa using hu
    simp [World.cell?, hh, hc]
set_option maxHeartbeats 1000000 in
theorem same_nil (a b : Option Addr) (c d : Nat) (w : World) : Calls Try.prog 16 #[.slice a 0 c, .slice b 0 d] w fun e w' => e = .returned (.bool true) ∧ w' = w := by
  go_enter Try.func16, Try.ntmps16
  go_wp2
  refine wp_loop_rounds 1 ?_
  rw [rounds_succ]
  go_wp2
  go_ret
  exact ⟨rfl, rfl⟩
/-- A value, the world as it was, but for draws. -/
def DPost (w : World) (v : Value) (e : Ending) (w' : World) : Prop := e = .returned v ∧ ∃ n, w' = w.drewN n
set_option maxHeartbeats 1000000 in
theorem same_one (g1 g2 c1 c2 : Nat) (m0 m1 m2 m3 m4 m5 m6 m7 m8 m9 : Int) (w : World) (p0 : w.cell? ⟨g1, 0, none⟩ = some (.int .u16 m0)) (p1 : w.cell? ⟨g1, 1, none⟩ = some (.int .u16 m1)) (p2 : w.cell? ⟨g1, 2, none⟩ = some (.int .u32 m2)) (p3 : w.cell? ⟨g1, 3, none⟩ = some (.int .u32 m3)) (p4 : w.cell? ⟨g1, 4, none⟩ = some (.int .u8 m4)) (p5 : w.cell? ⟨g1, 5, none⟩ = some (.int .u8 m5)) (p6 : w.cell? ⟨g1, 6, none⟩ = some (.int .u8 m6)) (p7 : w.cell? ⟨g1, 7, none⟩ = some (.int .u16 m7)) (p8 : w.cell? ⟨g1, 8, none⟩ = some (.int .u16 m8)) (p9 : w.cell? ⟨g1, 9, none⟩ = some (.int .u16 m9)) (q0 : w.cell? ⟨g2, 0, none⟩ = some (.int .u16 m0)) (q1 : w.cell? ⟨g2, 1, none⟩ = some (.int .u16 m1)) (q2 : w.cell? ⟨g2, 2, none⟩ = some (.int .u32 m2)) (q3 : w.cell? ⟨g2, 3, none⟩ = some (.int .u32 m3)) (q4 : w.cell? ⟨g2, 4, none⟩ = some (.int .u8 m4)) (q5 : w.cell? ⟨g2, 5, none⟩ = some (.int .u8 m5)) (q6 : w.cell? ⟨g2, 6, none⟩ = some (.int .u8 m6)) (q7 : w.cell? ⟨g2, 7, none⟩ = some (.int .u16 m7)) (q8 : w.cell? ⟨g2, 8, none⟩ = some (.int .u16 m8)) (q9 : w.cell? ⟨g2, 9, none⟩ = some (.int .u16 m9)) : Calls Try.prog 16 #[.slice (some ⟨g1, 0, none⟩) 1 c1, .slice (some ⟨g2, 0, none⟩) 1 c2] w fun e w' => DPost w (.bool true) e w' := by
  go_enter Try.func16, Try.ntmps16
  go_wp2
  refine wp_loop_rounds 2 ?_
  rw [rounds_succ]
  go_wp2
  go_quiet (fail)
  go_wp2
  rw [rounds_succ]
  go_wp2
  go_ret
  exact ⟨rfl, _, rfl⟩
end Go.Proofs.Ytbklomnlhpbhnaa
