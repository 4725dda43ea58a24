import Derived.Test.YtbklomnlhpbhnaaA12
import Derived.Test.YtbklomnlhpbhnaaA13
namespace Go.Proofs.Ytbklomnlhpbhnaa
open Go.RowKit
set_option linter.unusedSimpArgs false
theorem ask_calls (a b c d e f g h i j k : Int) (w : World) : Calls Try.prog 11 #[(Value.agg #[.int .i64 a, .int .i64 b, .int .u32 c, .int .u32 d, .int .u32 e, .int .u32 f, .int .i64 g, .int .i64 h, .int .u8 i, .int .i64 j, .int .i64 k])] w (CPost w (ask ⟨a, b, c, d, e, f, g, h, i, j, k⟩)) := by
  by_cases h0 : a = 0
  · subst h0; exact ask_yes (b := b) (c := c) (d := d) (e := e) (f := f) (g := g) (h := h) (i := i) (j := j) (k := k) w
  · exact ask_no (a := a) (b := b) (c := c) (d := d) (e := e) (f := f) (g := g) (h := h) (i := i) (j := j) (k := k) h0 w
theorem close_calls (a b c d e f g h i j k : Int) (w : World) : Calls Try.prog 13 #[(Value.agg #[.int .i64 a, .int .i64 b, .int .u32 c, .int .u32 d, .int .u32 e, .int .u32 f, .int .i64 g, .int .i64 h, .int .u8 i, .int .i64 j, .int .i64 k])] w (CPost w (close ⟨a, b, c, d, e, f, g, h, i, j, k⟩)) := by
  by_cases h1 : a = 1
  · subst h1; exact close_1 (b := b) (c := c) (d := d) (e := e) (f := f) (g := g) (h := h) (i := i) (j := j) (k := k) w
  by_cases h2 : a = 2
  · subst h2; exact close_2 (b := b) (c := c) (d := d) (e := e) (f := f) (g := g) (h := h) (i := i) (j := j) (k := k) w
  by_cases h3 : a = 3
  · subst h3; exact close_3 (b := b) (c := c) (d := d) (e := e) (f := f) (g := g) (h := h) (i := i) (j := j) (k := k) w
  by_cases h4 : a = 4
  · subst h4; exact close_4 (b := b) (c := c) (d := d) (e := e) (f := f) (g := g) (h := h) (i := i) (j := j) (k := k) w
  by_cases h9 : a = 9
  · subst h9; exact close_9 (b := b) (c := c) (d := d) (e := e) (f := f) (g := g) (h := h) (i := i) (j := j) (k := k) w
  exact close_no (a := a) (b := b) (c := c) (d := d) (e := e) (f := f) (g := g) (h := h) (i := i) (j := j) (k := k) h1 h2 h3 h4 h9 w
theorem timeout_calls (a b c d e f g h i j k : Int) (w : World) : Calls Try.prog 7 #[(Value.agg #[.int .i64 a, .int .i64 b, .int .u32 c, .int .u32 d, .int .u32 e, .int .u32 f, .int .i64 g, .int .i64 h, .int .u8 i, .int .i64 j, .int .i64 k])] w (CPost w (timeout ⟨a, b, c, d, e, f, g, h, i, j, k⟩)) := by
  by_cases h8 : a = 8
  · subst h8; exact timeout_8 (b := b) (c := c) (d := d) (e := e) (f := f) (g := g) (h := h) (i := i) (j := j) (k := k) w
  by_cases hk : 6 ≤ k
  · by_cases h2 : a = 2
    · subst h2; exact timeout_2_rst (b := b) (c := c) (d := d) (e := e) (f := f) (g := g) (h := h) (i := i) (j := j) (k := k) hk w
    by_cases h3 : a = 3
    · subst h3; exact timeout_3_rst (b := b) (c := c) (d := d) (e := e) (f := f) (g := g) (h := h) (i := i) (j := j) (k := k) hk w
    by_cases h5 : a = 5
    · subst h5; exact timeout_5_rst (b := b) (c := c) (d := d) (e := e) (f := f) (g := g) (h := h) (i := i) (j := j) (k := k) hk w
    by_cases h7 : a = 7
    · subst h7; exact timeout_7_rst (b := b) (c := c) (d := d) (e := e) (f := f) (g := g) (h := h) (i := i) (j := j) (k := k) hk w
    by_cases h10 : a = 10
    · subst h10; exact timeout_10_rst (b := b) (c := c) (d := d) (e := e) (f := f) (g := g) (h := h) (i := i) (j := j) (k := k) hk w
    exact timeout_no (a := a) (b := b) (c := c) (d := d) (e := e) (f := f) (g := g) (h := h) (i := i) (j := j) (k := k) h8 h2 h3 h5 h7 h10 w
  · have hk' : k < 6 := by omega
    by_cases h2 : a = 2
    · subst h2
      by_cases hq : wrap64 (k + 1) < 2
      · exact timeout_2_y (b := b) (c := c) (d := d) (e := e) (f := f) (g := g) (h := h) (i := i) (j := j) (k := k) hk' hq w
      · exact timeout_2_n (b := b) (c := c) (d := d) (e := e) (f := f) (g := g) (h := h) (i := i) (j := j) (k := k) hk' hq w
    by_cases h3 : a = 3
    · subst h3; exact timeout_3_on (b := b) (c := c) (d := d) (e := e) (f := f) (g := g) (h := h) (i := i) (j := j) (k := k) hk' w
    by_cases h5 : a = 5
    · subst h5; exact timeout_5_on (b := b) (c := c) (d := d) (e := e) (f := f) (g := g) (h := h) (i := i) (j := j) (k := k) hk' w
    by_cases h7 : a = 7
    · subst h7; exact timeout_7_on (b := b) (c := c) (d := d) (e := e) (f := f) (g := g) (h := h) (i := i) (j := j) (k := k) hk' w
    by_cases h10 : a = 10
    · subst h10; exact timeout_10_on (b := b) (c := c) (d := d) (e := e) (f := f) (g := g) (h := h) (i := i) (j := j) (k := k) hk' w
    exact timeout_no (a := a) (b := b) (c := c) (d := d) (e := e) (f := f) (g := g) (h := h) (i := i) (j := j) (k := k) h8 h2 h3 h5 h7 h10 w
theorem rask_calls (a b c d e f g h i j k : Int) (w : World) : Calls Try.prog 12 #[(Value.agg #[.int .i64 a, .int .i64 b, .int .u32 c, .int .u32 d, .int .u32 e, .int .u32 f, .int .i64 g, .int .i64 h, .int .u8 i, .int .i64 j, .int .i64 k])] w (CPost w (ask ⟨a, b, c, d, e, f, g, h, i, j, k⟩)) := by
  by_cases h0 : a = 0
  · subst h0; exact rask_yes (b := b) (c := c) (d := d) (e := e) (f := f) (g := g) (h := h) (i := i) (j := j) (k := k) w
  · exact rask_no (a := a) (b := b) (c := c) (d := d) (e := e) (f := f) (g := g) (h := h) (i := i) (j := j) (k := k) h0 w
theorem rclose_calls (a b c d e f g h i j k : Int) (w : World) : Calls Try.prog 14 #[(Value.agg #[.int .i64 a, .int .i64 b, .int .u32 c, .int .u32 d, .int .u32 e, .int .u32 f, .int .i64 g, .int .i64 h, .int .u8 i, .int .i64 j, .int .i64 k])] w (CPost w (close ⟨a, b, c, d, e, f, g, h, i, j, k⟩)) := by
  by_cases h1 : a = 1
  · subst h1; exact rclose_1 (b := b) (c := c) (d := d) (e := e) (f := f) (g := g) (h := h) (i := i) (j := j) (k := k) w
  by_cases h2 : a = 2
  · subst h2; exact rclose_2 (b := b) (c := c) (d := d) (e := e) (f := f) (g := g) (h := h) (i := i) (j := j) (k := k) w
  by_cases h3 : a = 3
  · subst h3; exact rclose_3 (b := b) (c := c) (d := d) (e := e) (f := f) (g := g) (h := h) (i := i) (j := j) (k := k) w
  by_cases h4 : a = 4
  · subst h4; exact rclose_4 (b := b) (c := c) (d := d) (e := e) (f := f) (g := g) (h := h) (i := i) (j := j) (k := k) w
  by_cases h9 : a = 9
  · subst h9; exact rclose_9 (b := b) (c := c) (d := d) (e := e) (f := f) (g := g) (h := h) (i := i) (j := j) (k := k) w
  exact rclose_no (a := a) (b := b) (c := c) (d := d) (e := e) (f := f) (g := g) (h := h) (i := i) (j := j) (k := k) h1 h2 h3 h4 h9 w
theorem rtimeout_calls (a b c d e f g h i j k : Int) (w : World) : Calls Try.prog 15 #[(Value.agg #[.int .i64 a, .int .i64 b, .int .u32 c, .int .u32 d, .int .u32 e, .int .u32 f, .int .i64 g, .int .i64 h, .int .u8 i, .int .i64 j, .int .i64 k])] w (CPost w (timeout ⟨a, b, c, d, e, f, g, h, i, j, k⟩)) := by
  by_cases h8 : a = 8
  · subst h8; exact rtimeout_8 (b := b) (c := c) (d := d) (e := e) (f := f) (g := g) (h := h) (i := i) (j := j) (k := k) w
  by_cases hk : 6 ≤ k
  · by_cases h2 : a = 2
    · subst h2; exact rtimeout_2_rst (b := b) (c := c) (d := d) (e := e) (f := f) (g := g) (h := h) (i := i) (j := j) (k := k) hk w
    by_cases h3 : a = 3
    · subst h3; exact rtimeout_3_rst (b := b) (c := c) (d := d) (e := e) (f := f) (g := g) (h := h) (i := i) (j := j) (k := k) hk w
    by_cases h5 : a = 5
    · subst h5; exact rtimeout_5_rst (b := b) (c := c) (d := d) (e := e) (f := f) (g := g) (h := h) (i := i) (j := j) (k := k) hk w
    by_cases h7 : a = 7
    · subst h7; exact rtimeout_7_rst (b := b) (c := c) (d := d) (e := e) (f := f) (g := g) (h := h) (i := i) (j := j) (k := k) hk w
    by_cases h10 : a = 10
    · subst h10; exact rtimeout_10_rst (b := b) (c := c) (d := d) (e := e) (f := f) (g := g) (h := h) (i := i) (j := j) (k := k) hk w
    exact rtimeout_no (a := a) (b := b) (c := c) (d := d) (e := e) (f := f) (g := g) (h := h) (i := i) (j := j) (k := k) h8 h2 h3 h5 h7 h10 w
  · have hk' : k < 6 := by omega
    by_cases h2 : a = 2
    · subst h2
      by_cases hq : wrap64 (k + 1) < 2
      · exact rtimeout_2_y (b := b) (c := c) (d := d) (e := e) (f := f) (g := g) (h := h) (i := i) (j := j) (k := k) hk' hq w
      · exact rtimeout_2_n (b := b) (c := c) (d := d) (e := e) (f := f) (g := g) (h := h) (i := i) (j := j) (k := k) hk' hq w
    by_cases h3 : a = 3
    · subst h3; exact rtimeout_3_on (b := b) (c := c) (d := d) (e := e) (f := f) (g := g) (h := h) (i := i) (j := j) (k := k) hk' w
    by_cases h5 : a = 5
    · subst h5; exact rtimeout_5_on (b := b) (c := c) (d := d) (e := e) (f := f) (g := g) (h := h) (i := i) (j := j) (k := k) hk' w
    by_cases h7 : a = 7
    · subst h7; exact rtimeout_7_on (b := b) (c := c) (d := d) (e := e) (f := f) (g := g) (h := h) (i := i) (j := j) (k := k) hk' w
    by_cases h10 : a = 10
    · subst h10; exact rtimeout_10_on (b := b) (c := c) (d := d) (e := e) (f := f) (g := g) (h := h) (i := i) (j := j) (k := k) hk' w
    exact rtimeout_no (a := a) (b := b) (c := c) (d := d) (e := e) (f := f) (g := g) (h := h) (i := i) (j := j) (k := k) h8 h2 h3 h5 h7 h10 w

theorem ask_len (x : C) : (ask x).2.length ≤ 1 := by unfold ask; split <;> simp
theorem close_len (x : C) : (close x).2.length ≤ 1 := by unfold close; repeat' (first | (simp; done) | split)
theorem timeout_len (x : C) : (timeout x).2.length ≤ 1 := by unfold timeout; repeat' (first | (simp; done) | split)
theorem same_calls {l : List H} (hl : l.length ≤ 1) {v1 v2 : Value} {B1 B2 : Nat} {w : World} (h1 : Segs w B1 v1 l) (h2 : Segs w B2 v2 l) : Calls Try.prog 16 #[v1, v2] w (DPost w (.bool true)) := by
  rcases l with _ | ⟨x, _ | ⟨y, l⟩⟩
  · obtain ⟨a, c, rfl⟩ := h1.nil_form
    obtain ⟨b, d, rfl⟩ := h2.nil_form
    exact (same_nil a b c d w).mono fun e w' ⟨he, hw⟩ => ⟨he, 0, hw⟩
  · obtain ⟨g1, c1, rfl, _, p⟩ := h1.one_form
    obtain ⟨g2, c2, rfl, _, q⟩ := h2.one_form
    obtain ⟨m0, m1, m2, m3, m4, m5, m6, m7, m8, m9⟩ := x
    exact same_one g1 g2 c1 c2 m0 m1 m2 m3 m4 m5 m6 m7 m8 m9 w (p 0 _ rfl) (p 1 _ rfl) (p 2 _ rfl) (p 3 _ rfl) (p 4 _ rfl) (p 5 _ rfl) (p 6 _ rfl) (p 7 _ rfl) (p 8 _ rfl) (p 9 _ rfl) (q 0 _ rfl) (q 1 _ rfl) (q 2 _ rfl) (q 3 _ rfl) (q 4 _ rfl) (q 5 _ rfl) (q 6 _ rfl) (q 7 _ rfl) (q 8 _ rfl) (q 9 _ rfl)
  · simp at hl
theorem listen_calls (a b c d e f g h i j k : Int) (w : World) : Calls Try.prog 17 #[(Value.agg #[.int .i64 a, .int .i64 b, .int .u32 c, .int .u32 d, .int .u32 e, .int .u32 f, .int .i64 g, .int .i64 h, .int .u8 i, .int .i64 j, .int .i64 k])] w (VPost w (listenv ⟨a, b, c, d, e, f, g, h, i, j, k⟩).v) := by
  by_cases h0 : a = 0
  · subst h0
    exact (listen_yes _ _ _ _ _ _ _ _ _ _ w).mono fun e w' ⟨he, hw⟩ => ⟨he, by subst hw; exact ((Below.refl _ _).alloc (Nat.le_refl _) _).alloc (by simp) _⟩
  · have hr : listenv ⟨a, b, c, d, e, f, g, h, i, j, k⟩ = ⟨a, b, c, d, e, f, g, h, i, j, k⟩ := by simp [listenv, h0]
    rw [hr]
    exact (listen_no _ _ _ _ _ _ _ _ _ _ _ h0 w).mono fun e w' ⟨he, hw⟩ => ⟨he, by subst hw; exact ((Below.refl _ _).alloc (Nat.le_refl _) _).alloc (by simp) _⟩
end Go.Proofs.Ytbklomnlhpbhnaa
