import Derived.Test.YtbklomnlhpbhnaaA10
import Derived.Test.YtbklomnlhpbhnaaA7
import Derived.Test.YtbklomnlhpbhnaaA8
namespace Go.Proofs.Ytbklomnlhpbhnaa
open Go.RowKit
set_option linter.unusedSimpArgs false

theorem others_calls (a b c d e f g h i j k m0 m1 m2 m3 m4 m5 m6 m7 m8 m9 : Int) (w : World) : Calls Try.prog 35 #[(Value.agg #[.int .i64 a, .int .i64 b, .int .u32 c, .int .u32 d, .int .u32 e, .int .u32 f, .int .i64 g, .int .i64 h, .int .u8 i, .int .i64 j, .int .i64 k]), (Value.agg #[.int .u16 m0, .int .u16 m1, .int .u32 m2, .int .u32 m3, .int .u8 m4, .int .u8 m5, .int .u8 m6, .int .u16 m7, .int .u16 m8, .int .u16 m9])] w (CPost w (othersv ⟨a, b, c, d, e, f, g, h, i, j, k⟩ ⟨m0, m1, m2, m3, m4, m5, m6, m7, m8, m9⟩)) := by
  cases h4 : has m6 4
  · cases h2 : has m6 2
    · by_cases hs : m2 = f
      · cases h16 : has m6 16
        · exact others_na (a := a) (b := b) (c := c) (d := d) (e := e) (f := f) (g := g) (h := h) (i := i) (j := j) (k := k) (m0 := m0) (m1 := m1) (m2 := m2) (m3 := m3) (m4 := m4) (m5 := m5) (m6 := m6) (m7 := m7) (m8 := m8) (m9 := m9) h4 h2 h16 hs w
        · cases hnx : newer m3 e
          · cases hnu : newer m3 d
            · by_cases h3 : a = 3
              · subst h3
                by_cases hq : d = e
                · by_cases hg : g = 2
                  · subst hg
                    cases h1 : has m6 1
                    · exact to_2y (b := b) (c := c) (d := d) (e := e) (f := f) (h := h) (i := i) (j := j) (k := k) (m0 := m0) (m1 := m1) (m2 := m2) (m3 := m3) (m4 := m4) (m5 := m5) (m6 := m6) (m7 := m7) (m8 := m8) (m9 := m9) h4 h2 h16 hnx hnu h1 hs hq w
                    · exact to_3y (b := b) (c := c) (d := d) (e := e) (f := f) (h := h) (i := i) (j := j) (k := k) (m0 := m0) (m1 := m1) (m2 := m2) (m3 := m3) (m4 := m4) (m5 := m5) (m6 := m6) (m7 := m7) (m8 := m8) (m9 := m9) h4 h2 h16 hnx hnu h1 hs hq w
                  · cases h1 : has m6 1
                    · exact to_2n (b := b) (c := c) (d := d) (e := e) (f := f) (g := g) (h := h) (i := i) (j := j) (k := k) (m0 := m0) (m1 := m1) (m2 := m2) (m3 := m3) (m4 := m4) (m5 := m5) (m6 := m6) (m7 := m7) (m8 := m8) (m9 := m9) h4 h2 h16 hnx hnu hg h1 hs hq w
                    · exact to_3n (b := b) (c := c) (d := d) (e := e) (f := f) (g := g) (h := h) (i := i) (j := j) (k := k) (m0 := m0) (m1 := m1) (m2 := m2) (m3 := m3) (m4 := m4) (m5 := m5) (m6 := m6) (m7 := m7) (m8 := m8) (m9 := m9) h4 h2 h16 hnx hnu hg h1 hs hq w
                · exact to_1 (b := b) (c := c) (d := d) (e := e) (f := f) (g := g) (h := h) (i := i) (j := j) (k := k) (m0 := m0) (m1 := m1) (m2 := m2) (m3 := m3) (m4 := m4) (m5 := m5) (m6 := m6) (m7 := m7) (m8 := m8) (m9 := m9) h4 h2 h16 hnx hnu hs hq w
              · by_cases hq : d = e
                · cases h1 : has m6 1
                  · exact to_4 (a := a) (b := b) (c := c) (d := d) (e := e) (f := f) (g := g) (h := h) (i := i) (j := j) (k := k) (m0 := m0) (m1 := m1) (m2 := m2) (m3 := m3) (m4 := m4) (m5 := m5) (m6 := m6) (m7 := m7) (m8 := m8) (m9 := m9) h4 h2 h16 hnx hnu h1 hs h3 hq w
                  · exact to_5 (a := a) (b := b) (c := c) (d := d) (e := e) (f := f) (g := g) (h := h) (i := i) (j := j) (k := k) (m0 := m0) (m1 := m1) (m2 := m2) (m3 := m3) (m4 := m4) (m5 := m5) (m6 := m6) (m7 := m7) (m8 := m8) (m9 := m9) h4 h2 h16 hnx hnu h1 hs h3 hq w
                · cases h1 : has m6 1
                  · exact to_6 (a := a) (b := b) (c := c) (d := d) (e := e) (f := f) (g := g) (h := h) (i := i) (j := j) (k := k) (m0 := m0) (m1 := m1) (m2 := m2) (m3 := m3) (m4 := m4) (m5 := m5) (m6 := m6) (m7 := m7) (m8 := m8) (m9 := m9) h4 h2 h16 hnx hnu h1 hs h3 hq w
                  · exact to_7 (a := a) (b := b) (c := c) (d := d) (e := e) (f := f) (g := g) (h := h) (i := i) (j := j) (k := k) (m0 := m0) (m1 := m1) (m2 := m2) (m3 := m3) (m4 := m4) (m5 := m5) (m6 := m6) (m7 := m7) (m8 := m8) (m9 := m9) h4 h2 h16 hnx hnu h1 hs h3 hq w
            · by_cases h3 : a = 3
              · subst h3
                by_cases hq : m3 = e
                · by_cases hg : g = 2
                  · subst hg
                    cases h1 : has m6 1
                    · exact tu_2y (b := b) (c := c) (d := d) (e := e) (f := f) (h := h) (i := i) (j := j) (k := k) (m0 := m0) (m1 := m1) (m2 := m2) (m3 := m3) (m4 := m4) (m5 := m5) (m6 := m6) (m7 := m7) (m8 := m8) (m9 := m9) h4 h2 h16 hnx hnu h1 hs hq w
                    · exact tu_3y (b := b) (c := c) (d := d) (e := e) (f := f) (h := h) (i := i) (j := j) (k := k) (m0 := m0) (m1 := m1) (m2 := m2) (m3 := m3) (m4 := m4) (m5 := m5) (m6 := m6) (m7 := m7) (m8 := m8) (m9 := m9) h4 h2 h16 hnx hnu h1 hs hq w
                  · cases h1 : has m6 1
                    · exact tu_2n (b := b) (c := c) (d := d) (e := e) (f := f) (g := g) (h := h) (i := i) (j := j) (k := k) (m0 := m0) (m1 := m1) (m2 := m2) (m3 := m3) (m4 := m4) (m5 := m5) (m6 := m6) (m7 := m7) (m8 := m8) (m9 := m9) h4 h2 h16 hnx hnu hg h1 hs hq w
                    · exact tu_3n (b := b) (c := c) (d := d) (e := e) (f := f) (g := g) (h := h) (i := i) (j := j) (k := k) (m0 := m0) (m1 := m1) (m2 := m2) (m3 := m3) (m4 := m4) (m5 := m5) (m6 := m6) (m7 := m7) (m8 := m8) (m9 := m9) h4 h2 h16 hnx hnu hg h1 hs hq w
                · exact tu_1 (b := b) (c := c) (d := d) (e := e) (f := f) (g := g) (h := h) (i := i) (j := j) (k := k) (m0 := m0) (m1 := m1) (m2 := m2) (m3 := m3) (m4 := m4) (m5 := m5) (m6 := m6) (m7 := m7) (m8 := m8) (m9 := m9) h4 h2 h16 hnx hnu hs hq w
              · by_cases hq : m3 = e
                · cases h1 : has m6 1
                  · exact tu_4 (a := a) (b := b) (c := c) (d := d) (e := e) (f := f) (g := g) (h := h) (i := i) (j := j) (k := k) (m0 := m0) (m1 := m1) (m2 := m2) (m3 := m3) (m4 := m4) (m5 := m5) (m6 := m6) (m7 := m7) (m8 := m8) (m9 := m9) h4 h2 h16 hnx hnu h1 hs h3 hq w
                  · exact tu_5 (a := a) (b := b) (c := c) (d := d) (e := e) (f := f) (g := g) (h := h) (i := i) (j := j) (k := k) (m0 := m0) (m1 := m1) (m2 := m2) (m3 := m3) (m4 := m4) (m5 := m5) (m6 := m6) (m7 := m7) (m8 := m8) (m9 := m9) h4 h2 h16 hnx hnu h1 hs h3 hq w
                · cases h1 : has m6 1
                  · exact tu_6 (a := a) (b := b) (c := c) (d := d) (e := e) (f := f) (g := g) (h := h) (i := i) (j := j) (k := k) (m0 := m0) (m1 := m1) (m2 := m2) (m3 := m3) (m4 := m4) (m5 := m5) (m6 := m6) (m7 := m7) (m8 := m8) (m9 := m9) h4 h2 h16 hnx hnu h1 hs h3 hq w
                  · exact tu_7 (a := a) (b := b) (c := c) (d := d) (e := e) (f := f) (g := g) (h := h) (i := i) (j := j) (k := k) (m0 := m0) (m1 := m1) (m2 := m2) (m3 := m3) (m4 := m4) (m5 := m5) (m6 := m6) (m7 := m7) (m8 := m8) (m9 := m9) h4 h2 h16 hnx hnu h1 hs h3 hq w
          · exact others_nx (a := a) (b := b) (c := c) (d := d) (e := e) (f := f) (g := g) (h := h) (i := i) (j := j) (k := k) (m0 := m0) (m1 := m1) (m2 := m2) (m3 := m3) (m4 := m4) (m5 := m5) (m6 := m6) (m7 := m7) (m8 := m8) (m9 := m9) h4 h2 h16 hnx hs w
      · exact others_seq (a := a) (b := b) (c := c) (d := d) (e := e) (f := f) (g := g) (h := h) (i := i) (j := j) (k := k) (m0 := m0) (m1 := m1) (m2 := m2) (m3 := m3) (m4 := m4) (m5 := m5) (m6 := m6) (m7 := m7) (m8 := m8) (m9 := m9) h4 h2 hs w
    · by_cases h3 : a = 3
      · subst h3
        cases h16 : has m6 16
        · by_cases hs : m2 = (f - 1) % 4294967296
          · exact others_syn_a (b := b) (c := c) (d := d) (e := e) (f := f) (g := g) (h := h) (i := i) (j := j) (k := k) (m0 := m0) (m1 := m1) (m2 := m2) (m3 := m3) (m4 := m4) (m5 := m5) (m6 := m6) (m7 := m7) (m8 := m8) (m9 := m9) h4 h2 h16 hs w
          · exact others_syn_b (b := b) (c := c) (d := d) (e := e) (f := f) (g := g) (h := h) (i := i) (j := j) (k := k) (m0 := m0) (m1 := m1) (m2 := m2) (m3 := m3) (m4 := m4) (m5 := m5) (m6 := m6) (m7 := m7) (m8 := m8) (m9 := m9) h4 h2 h16 hs w
        · exact others_syn_c (b := b) (c := c) (d := d) (e := e) (f := f) (g := g) (h := h) (i := i) (j := j) (k := k) (m0 := m0) (m1 := m1) (m2 := m2) (m3 := m3) (m4 := m4) (m5 := m5) (m6 := m6) (m7 := m7) (m8 := m8) (m9 := m9) h4 h2 h16 w
      · exact others_syn_d (a := a) (b := b) (c := c) (d := d) (e := e) (f := f) (g := g) (h := h) (i := i) (j := j) (k := k) (m0 := m0) (m1 := m1) (m2 := m2) (m3 := m3) (m4 := m4) (m5 := m5) (m6 := m6) (m7 := m7) (m8 := m8) (m9 := m9) h4 h2 h3 w
  · by_cases hs : m2 = f
    · exact others_rst_y (a := a) (b := b) (c := c) (d := d) (e := e) (f := f) (g := g) (h := h) (i := i) (j := j) (k := k) (m0 := m0) (m1 := m1) (m2 := m2) (m3 := m3) (m4 := m4) (m5 := m5) (m6 := m6) (m7 := m7) (m8 := m8) (m9 := m9) h4 hs w
    · exact others_rst_n (a := a) (b := b) (c := c) (d := d) (e := e) (f := f) (g := g) (h := h) (i := i) (j := j) (k := k) (m0 := m0) (m1 := m1) (m2 := m2) (m3 := m3) (m4 := m4) (m5 := m5) (m6 := m6) (m7 := m7) (m8 := m8) (m9 := m9) h4 hs w
/-- A segment taken. -/
def takev (x : C) (m : H) (code : Int) : C × List H :=
  if x.st = 0 then closedv x m
  else if x.st = 1 then listeningv x m (if shake code = 0 then 0 else code)
  else if x.st = 2 then askedv x m (if shake code = 0 then 0 else code)
  else othersv x m
set_option maxHeartbeats 2000000 in
theorem take_0_n (b c d e f g h i j k m0 m1 m2 m3 m4 m5 m6 m7 m8 m9 u : Int) (hz : ¬ shake u = 0) (w : World) : Calls Try.prog 27 #[(Value.agg #[.int .i64 0, .int .i64 b, .int .u32 c, .int .u32 d, .int .u32 e, .int .u32 f, .int .i64 g, .int .i64 h, .int .u8 i, .int .i64 j, .int .i64 k]), (Value.agg #[.int .u16 m0, .int .u16 m1, .int .u32 m2, .int .u32 m3, .int .u8 m4, .int .u8 m5, .int .u8 m6, .int .u16 m7, .int .u16 m8, .int .u16 m9]), .int .i64 u] w (CPost w (takev ⟨0, b, c, d, e, f, g, h, i, j, k⟩ ⟨m0, m1, m2, m3, m4, m5, m6, m7, m8, m9⟩ u)) := by
  have hr : takev ⟨0, b, c, d, e, f, g, h, i, j, k⟩ ⟨m0, m1, m2, m3, m4, m5, m6, m7, m8, m9⟩ u = closedv ⟨0, b, c, d, e, f, g, h, i, j, k⟩ ⟨m0, m1, m2, m3, m4, m5, m6, m7, m8, m9⟩ := by simp [takev, hz]
  rw [hr]; clear hr
  have bz : (shake u == 0) = false := by simpa using hz
  clear hz
  go_enter Try.func27, Try.ntmps27
  go_wp2_with (first | (go_at_call 31; refine (Shake_calls _ _).mono ?_; rintro e w' ⟨rfl, rfl⟩) | (go_at_call 32; refine (closed_calls _ _ _ _ _ _ _ _ _ _ _ _ _ _ _ _ _ _ _ _ _ _).mono ?_; rintro e w' ⟨v, rfl, hs, hb⟩; obtain ⟨hA, hAf⟩ := held (g := w.heap.size + 1 + 1) hb (by repeat (first | (refine heap_new ?_; (simp; done)) | refine heap_alloc ?_ _ | refine heap_drew ?_)); generalize hfr : closedv _ _ = fr at hs ⊢; obtain ⟨⟨r0, r1, r2, r3, r4, r5, r6, r7, r8, r9, r10⟩, rl⟩ := fr; have Hfr := Lib.hid hfr; clear hfr; have Hs := Lib.hid hs; clear hs; have Hb := Lib.hid hb; clear hb; dsimp only [C.v]))
  rw [Hfr.out]
  refine bodyPost_ret (v := .tuple #[(Value.agg #[.int .i64 r0, .int .i64 r1, .int .u32 r2, .int .u32 r3, .int .u32 r4, .int .u32 r5, .int .i64 r6, .int .i64 r7, .int .u8 r8, .int .i64 r9, .int .i64 r10]), v]) (by simp [results, Try.results27, go_sem, hA]) rfl ⟨_, rfl, (Segs.base (Segs.set11 _ _ _ _ _ _ _ _ _ _ _ Hs.out (by first | omega | (simp; done) | (simp; omega) | (simp only [World.size_alloc]; omega))) (by first | omega | (simp; done) | (simp; omega) | (simp only [World.size_alloc]; omega))), (below_set11 _ _ _ _ _ _ _ _ _ _ _ (Below.trans (by repeat (first | exact Below.refl _ _ | refine Below.drew ?_ | refine below_drewN ?_ _ | (refine Below.alloc ?_ ?hB _; (case hB => first | (simp; done) | (simp; omega))))) (Hb.out.mono (by first | omega | (simp; done) | (simp; omega) | (simp only [World.size_alloc]; omega)))) (by first | omega | (simp; done) | (simp; omega) | (simp only [World.size_alloc]; omega)))⟩
set_option maxHeartbeats 2000000 in
theorem take_0_z (b c d e f g h i j k m0 m1 m2 m3 m4 m5 m6 m7 m8 m9 u : Int) (hz : shake u = 0) (w : World) : Calls Try.prog 27 #[(Value.agg #[.int .i64 0, .int .i64 b, .int .u32 c, .int .u32 d, .int .u32 e, .int .u32 f, .int .i64 g, .int .i64 h, .int .u8 i, .int .i64 j, .int .i64 k]), (Value.agg #[.int .u16 m0, .int .u16 m1, .int .u32 m2, .int .u32 m3, .int .u8 m4, .int .u8 m5, .int .u8 m6, .int .u16 m7, .int .u16 m8, .int .u16 m9]), .int .i64 u] w (CPost w (takev ⟨0, b, c, d, e, f, g, h, i, j, k⟩ ⟨m0, m1, m2, m3, m4, m5, m6, m7, m8, m9⟩ u)) := by
  have hr : takev ⟨0, b, c, d, e, f, g, h, i, j, k⟩ ⟨m0, m1, m2, m3, m4, m5, m6, m7, m8, m9⟩ u = closedv ⟨0, b, c, d, e, f, g, h, i, j, k⟩ ⟨m0, m1, m2, m3, m4, m5, m6, m7, m8, m9⟩ := by simp [takev, hz]
  rw [hr]; clear hr
  have bz : (shake u == 0) = true := by simpa using hz
  clear hz
  go_enter Try.func27, Try.ntmps27
  go_wp2_with (first | (go_at_call 31; refine (Shake_calls _ _).mono ?_; rintro e w' ⟨rfl, rfl⟩) | (go_at_call 32; refine (closed_calls _ _ _ _ _ _ _ _ _ _ _ _ _ _ _ _ _ _ _ _ _ _).mono ?_; rintro e w' ⟨v, rfl, hs, hb⟩; obtain ⟨hA, hAf⟩ := held (g := w.heap.size + 1 + 1) hb (by repeat (first | (refine heap_new ?_; (simp; done)) | refine heap_alloc ?_ _ | refine heap_drew ?_)); generalize hfr : closedv _ _ = fr at hs ⊢; obtain ⟨⟨r0, r1, r2, r3, r4, r5, r6, r7, r8, r9, r10⟩, rl⟩ := fr; have Hfr := Lib.hid hfr; clear hfr; have Hs := Lib.hid hs; clear hs; have Hb := Lib.hid hb; clear hb; dsimp only [C.v]))
  rw [Hfr.out]
  refine bodyPost_ret (v := .tuple #[(Value.agg #[.int .i64 r0, .int .i64 r1, .int .u32 r2, .int .u32 r3, .int .u32 r4, .int .u32 r5, .int .i64 r6, .int .i64 r7, .int .u8 r8, .int .i64 r9, .int .i64 r10]), v]) (by simp [results, Try.results27, go_sem, hA]) rfl ⟨_, rfl, (Segs.base (Segs.set11 _ _ _ _ _ _ _ _ _ _ _ Hs.out (by first | omega | (simp; done) | (simp; omega) | (simp only [World.size_alloc]; omega))) (by first | omega | (simp; done) | (simp; omega) | (simp only [World.size_alloc]; omega))), (below_set11 _ _ _ _ _ _ _ _ _ _ _ (Below.trans (by repeat (first | exact Below.refl _ _ | refine Below.drew ?_ | refine below_drewN ?_ _ | (refine Below.alloc ?_ ?hB _; (case hB => first | (simp; done) | (simp; omega))))) (Hb.out.mono (by first | omega | (simp; done) | (simp; omega) | (simp only [World.size_alloc]; omega)))) (by first | omega | (simp; done) | (simp; omega) | (simp only [World.size_alloc]; omega)))⟩
set_option maxHeartbeats 2000000 in
theorem take_1_n (b c d e f g h i j k m0 m1 m2 m3 m4 m5 m6 m7 m8 m9 u : Int) (hz : ¬ shake u = 0) (w : World) : Calls Try.prog 27 #[(Value.agg #[.int .i64 1, .int .i64 b, .int .u32 c, .int .u32 d, .int .u32 e, .int .u32 f, .int .i64 g, .int .i64 h, .int .u8 i, .int .i64 j, .int .i64 k]), (Value.agg #[.int .u16 m0, .int .u16 m1, .int .u32 m2, .int .u32 m3, .int .u8 m4, .int .u8 m5, .int .u8 m6, .int .u16 m7, .int .u16 m8, .int .u16 m9]), .int .i64 u] w (CPost w (takev ⟨1, b, c, d, e, f, g, h, i, j, k⟩ ⟨m0, m1, m2, m3, m4, m5, m6, m7, m8, m9⟩ u)) := by
  have hr : takev ⟨1, b, c, d, e, f, g, h, i, j, k⟩ ⟨m0, m1, m2, m3, m4, m5, m6, m7, m8, m9⟩ u = listeningv ⟨1, b, c, d, e, f, g, h, i, j, k⟩ ⟨m0, m1, m2, m3, m4, m5, m6, m7, m8, m9⟩ u := by simp [takev, hz]
  rw [hr]; clear hr
  have bz : (shake u == 0) = false := by simpa using hz
  clear hz
  go_enter Try.func27, Try.ntmps27
  go_wp2_with (first | (go_at_call 31; refine (Shake_calls _ _).mono ?_; rintro e w' ⟨rfl, rfl⟩) | (go_at_call 33; refine (listening_calls _ _ _ _ _ _ _ _ _ _ _ _ _ _ _ _ _ _ _ _ _ _ _).mono ?_; rintro e w' ⟨v, rfl, hs, hb⟩; obtain ⟨hA, hAf⟩ := held (g := w.heap.size + 1 + 1) hb (by repeat (first | (refine heap_new ?_; (simp; done)) | refine heap_alloc ?_ _ | refine heap_drew ?_)); generalize hfr : listeningv _ _ _ = fr at hs ⊢; obtain ⟨⟨r0, r1, r2, r3, r4, r5, r6, r7, r8, r9, r10⟩, rl⟩ := fr; have Hfr := Lib.hid hfr; clear hfr; have Hs := Lib.hid hs; clear hs; have Hb := Lib.hid hb; clear hb; dsimp only [C.v]))
  rw [Hfr.out]
  refine bodyPost_ret (v := .tuple #[(Value.agg #[.int .i64 r0, .int .i64 r1, .int .u32 r2, .int .u32 r3, .int .u32 r4, .int .u32 r5, .int .i64 r6, .int .i64 r7, .int .u8 r8, .int .i64 r9, .int .i64 r10]), v]) (by simp [results, Try.results27, go_sem, hA]) rfl ⟨_, rfl, (Segs.base (Segs.set11 _ _ _ _ _ _ _ _ _ _ _ Hs.out (by first | omega | (simp; done) | (simp; omega) | (simp only [World.size_alloc]; omega))) (by first | omega | (simp; done) | (simp; omega) | (simp only [World.size_alloc]; omega))), (below_set11 _ _ _ _ _ _ _ _ _ _ _ (Below.trans (by repeat (first | exact Below.refl _ _ | refine Below.drew ?_ | refine below_drewN ?_ _ | (refine Below.alloc ?_ ?hB _; (case hB => first | (simp; done) | (simp; omega))))) (Hb.out.mono (by first | omega | (simp; done) | (simp; omega) | (simp only [World.size_alloc]; omega)))) (by first | omega | (simp; done) | (simp; omega) | (simp only [World.size_alloc]; omega)))⟩
set_option maxHeartbeats 2000000 in
theorem take_1_z (b c d e f g h i j k m0 m1 m2 m3 m4 m5 m6 m7 m8 m9 u : Int) (hz : shake u = 0) (w : World) : Calls Try.prog 27 #[(Value.agg #[.int .i64 1, .int .i64 b, .int .u32 c, .int .u32 d, .int .u32 e, .int .u32 f, .int .i64 g, .int .i64 h, .int .u8 i, .int .i64 j, .int .i64 k]), (Value.agg #[.int .u16 m0, .int .u16 m1, .int .u32 m2, .int .u32 m3, .int .u8 m4, .int .u8 m5, .int .u8 m6, .int .u16 m7, .int .u16 m8, .int .u16 m9]), .int .i64 u] w (CPost w (takev ⟨1, b, c, d, e, f, g, h, i, j, k⟩ ⟨m0, m1, m2, m3, m4, m5, m6, m7, m8, m9⟩ u)) := by
  have hr : takev ⟨1, b, c, d, e, f, g, h, i, j, k⟩ ⟨m0, m1, m2, m3, m4, m5, m6, m7, m8, m9⟩ u = listeningv ⟨1, b, c, d, e, f, g, h, i, j, k⟩ ⟨m0, m1, m2, m3, m4, m5, m6, m7, m8, m9⟩ 0 := by simp [takev, hz]
  rw [hr]; clear hr
  have bz : (shake u == 0) = true := by simpa using hz
  clear hz
  go_enter Try.func27, Try.ntmps27
  go_wp2_with (first | (go_at_call 31; refine (Shake_calls _ _).mono ?_; rintro e w' ⟨rfl, rfl⟩) | (go_at_call 33; refine (listening_calls _ _ _ _ _ _ _ _ _ _ _ _ _ _ _ _ _ _ _ _ _ _ _).mono ?_; rintro e w' ⟨v, rfl, hs, hb⟩; obtain ⟨hA, hAf⟩ := held (g := w.heap.size + 1 + 1) hb (by repeat (first | (refine heap_new ?_; (simp; done)) | refine heap_alloc ?_ _ | refine heap_drew ?_)); generalize hfr : listeningv _ _ _ = fr at hs ⊢; obtain ⟨⟨r0, r1, r2, r3, r4, r5, r6, r7, r8, r9, r10⟩, rl⟩ := fr; have Hfr := Lib.hid hfr; clear hfr; have Hs := Lib.hid hs; clear hs; have Hb := Lib.hid hb; clear hb; dsimp only [C.v]))
  rw [Hfr.out]
  refine bodyPost_ret (v := .tuple #[(Value.agg #[.int .i64 r0, .int .i64 r1, .int .u32 r2, .int .u32 r3, .int .u32 r4, .int .u32 r5, .int .i64 r6, .int .i64 r7, .int .u8 r8, .int .i64 r9, .int .i64 r10]), v]) (by simp [results, Try.results27, go_sem, hA]) rfl ⟨_, rfl, (Segs.base (Segs.set11 _ _ _ _ _ _ _ _ _ _ _ Hs.out (by first | omega | (simp; done) | (simp; omega) | (simp only [World.size_alloc]; omega))) (by first | omega | (simp; done) | (simp; omega) | (simp only [World.size_alloc]; omega))), (below_set11 _ _ _ _ _ _ _ _ _ _ _ (Below.trans (by repeat (first | exact Below.refl _ _ | refine Below.drew ?_ | refine below_drewN ?_ _ | (refine Below.alloc ?_ ?hB _; (case hB => first | (simp; done) | (simp; omega))))) (Hb.out.mono (by first | omega | (simp; done) | (simp; omega) | (simp only [World.size_alloc]; omega)))) (by first | omega | (simp; done) | (simp; omega) | (simp only [World.size_alloc]; omega)))⟩
set_option maxHeartbeats 2000000 in
theorem take_2_n (b c d e f g h i j k m0 m1 m2 m3 m4 m5 m6 m7 m8 m9 u : Int) (hz : ¬ shake u = 0) (w : World) : Calls Try.prog 27 #[(Value.agg #[.int .i64 2, .int .i64 b, .int .u32 c, .int .u32 d, .int .u32 e, .int .u32 f, .int .i64 g, .int .i64 h, .int .u8 i, .int .i64 j, .int .i64 k]), (Value.agg #[.int .u16 m0, .int .u16 m1, .int .u32 m2, .int .u32 m3, .int .u8 m4, .int .u8 m5, .int .u8 m6, .int .u16 m7, .int .u16 m8, .int .u16 m9]), .int .i64 u] w (CPost w (takev ⟨2, b, c, d, e, f, g, h, i, j, k⟩ ⟨m0, m1, m2, m3, m4, m5, m6, m7, m8, m9⟩ u)) := by
  have hr : takev ⟨2, b, c, d, e, f, g, h, i, j, k⟩ ⟨m0, m1, m2, m3, m4, m5, m6, m7, m8, m9⟩ u = askedv ⟨2, b, c, d, e, f, g, h, i, j, k⟩ ⟨m0, m1, m2, m3, m4, m5, m6, m7, m8, m9⟩ u := by simp [takev, hz]
  rw [hr]; clear hr
  have bz : (shake u == 0) = false := by simpa using hz
  clear hz
  go_enter Try.func27, Try.ntmps27
  go_wp2_with (first | (go_at_call 31; refine (Shake_calls _ _).mono ?_; rintro e w' ⟨rfl, rfl⟩) | (go_at_call 34; refine (asked_calls _ _ _ _ _ _ _ _ _ _ _ _ _ _ _ _ _ _ _ _ _ _ _).mono ?_; rintro e w' ⟨v, rfl, hs, hb⟩; obtain ⟨hA, hAf⟩ := held (g := w.heap.size + 1 + 1) hb (by repeat (first | (refine heap_new ?_; (simp; done)) | refine heap_alloc ?_ _ | refine heap_drew ?_)); generalize hfr : askedv _ _ _ = fr at hs ⊢; obtain ⟨⟨r0, r1, r2, r3, r4, r5, r6, r7, r8, r9, r10⟩, rl⟩ := fr; have Hfr := Lib.hid hfr; clear hfr; have Hs := Lib.hid hs; clear hs; have Hb := Lib.hid hb; clear hb; dsimp only [C.v]))
  rw [Hfr.out]
  refine bodyPost_ret (v := .tuple #[(Value.agg #[.int .i64 r0, .int .i64 r1, .int .u32 r2, .int .u32 r3, .int .u32 r4, .int .u32 r5, .int .i64 r6, .int .i64 r7, .int .u8 r8, .int .i64 r9, .int .i64 r10]), v]) (by simp [results, Try.results27, go_sem, hA]) rfl ⟨_, rfl, (Segs.base (Segs.set11 _ _ _ _ _ _ _ _ _ _ _ Hs.out (by first | omega | (simp; done) | (simp; omega) | (simp only [World.size_alloc]; omega))) (by first | omega | (simp; done) | (simp; omega) | (simp only [World.size_alloc]; omega))), (below_set11 _ _ _ _ _ _ _ _ _ _ _ (Below.trans (by repeat (first | exact Below.refl _ _ | refine Below.drew ?_ | refine below_drewN ?_ _ | (refine Below.alloc ?_ ?hB _; (case hB => first | (simp; done) | (simp; omega))))) (Hb.out.mono (by first | omega | (simp; done) | (simp; omega) | (simp only [World.size_alloc]; omega)))) (by first | omega | (simp; done) | (simp; omega) | (simp only [World.size_alloc]; omega)))⟩
set_option maxHeartbeats 2000000 in
theorem take_2_z (b c d e f g h i j k m0 m1 m2 m3 m4 m5 m6 m7 m8 m9 u : Int) (hz : shake u = 0) (w : World) : Calls Try.prog 27 #[(Value.agg #[.int .i64 2, .int .i64 b, .int .u32 c, .int .u32 d, .int .u32 e, .int .u32 f, .int .i64 g, .int .i64 h, .int .u8 i, .int .i64 j, .int .i64 k]), (Value.agg #[.int .u16 m0, .int .u16 m1, .int .u32 m2, .int .u32 m3, .int .u8 m4, .int .u8 m5, .int .u8 m6, .int .u16 m7, .int .u16 m8, .int .u16 m9]), .int .i64 u] w (CPost w (takev ⟨2, b, c, d, e, f, g, h, i, j, k⟩ ⟨m0, m1, m2, m3, m4, m5, m6, m7, m8, m9⟩ u)) := by
  have hr : takev ⟨2, b, c, d, e, f, g, h, i, j, k⟩ ⟨m0, m1, m2, m3, m4, m5, m6, m7, m8, m9⟩ u = askedv ⟨2, b, c, d, e, f, g, h, i, j, k⟩ ⟨m0, m1, m2, m3, m4, m5, m6, m7, m8, m9⟩ 0 := by simp [takev, hz]
  rw [hr]; clear hr
  have bz : (shake u == 0) = true := by simpa using hz
  clear hz
  go_enter Try.func27, Try.ntmps27
  go_wp2_with (first | (go_at_call 31; refine (Shake_calls _ _).mono ?_; rintro e w' ⟨rfl, rfl⟩) | (go_at_call 34; refine (asked_calls _ _ _ _ _ _ _ _ _ _ _ _ _ _ _ _ _ _ _ _ _ _ _).mono ?_; rintro e w' ⟨v, rfl, hs, hb⟩; obtain ⟨hA, hAf⟩ := held (g := w.heap.size + 1 + 1) hb (by repeat (first | (refine heap_new ?_; (simp; done)) | refine heap_alloc ?_ _ | refine heap_drew ?_)); generalize hfr : askedv _ _ _ = fr at hs ⊢; obtain ⟨⟨r0, r1, r2, r3, r4, r5, r6, r7, r8, r9, r10⟩, rl⟩ := fr; have Hfr := Lib.hid hfr; clear hfr; have Hs := Lib.hid hs; clear hs; have Hb := Lib.hid hb; clear hb; dsimp only [C.v]))
  rw [Hfr.out]
  refine bodyPost_ret (v := .tuple #[(Value.agg #[.int .i64 r0, .int .i64 r1, .int .u32 r2, .int .u32 r3, .int .u32 r4, .int .u32 r5, .int .i64 r6, .int .i64 r7, .int .u8 r8, .int .i64 r9, .int .i64 r10]), v]) (by simp [results, Try.results27, go_sem, hA]) rfl ⟨_, rfl, (Segs.base (Segs.set11 _ _ _ _ _ _ _ _ _ _ _ Hs.out (by first | omega | (simp; done) | (simp; omega) | (simp only [World.size_alloc]; omega))) (by first | omega | (simp; done) | (simp; omega) | (simp only [World.size_alloc]; omega))), (below_set11 _ _ _ _ _ _ _ _ _ _ _ (Below.trans (by repeat (first | exact Below.refl _ _ | refine Below.drew ?_ | refine below_drewN ?_ _ | (refine Below.alloc ?_ ?hB _; (case hB => first | (simp; done) | (simp; omega))))) (Hb.out.mono (by first | omega | (simp; done) | (simp; omega) | (simp only [World.size_alloc]; omega)))) (by first | omega | (simp; done) | (simp; omega) | (simp only [World.size_alloc]; omega)))⟩
set_option maxHeartbeats 2000000 in
theorem take_o_n (a b c d e f g h i j k m0 m1 m2 m3 m4 m5 m6 m7 m8 m9 u : Int) (hz : ¬ shake u = 0) (h0 : ¬ a = 0) (h1 : ¬ a = 1) (h2 : ¬ a = 2) (w : World) : Calls Try.prog 27 #[(Value.agg #[.int .i64 a, .int .i64 b, .int .u32 c, .int .u32 d, .int .u32 e, .int .u32 f, .int .i64 g, .int .i64 h, .int .u8 i, .int .i64 j, .int .i64 k]), (Value.agg #[.int .u16 m0, .int .u16 m1, .int .u32 m2, .int .u32 m3, .int .u8 m4, .int .u8 m5, .int .u8 m6, .int .u16 m7, .int .u16 m8, .int .u16 m9]), .int .i64 u] w (CPost w (takev ⟨a, b, c, d, e, f, g, h, i, j, k⟩ ⟨m0, m1, m2, m3, m4, m5, m6, m7, m8, m9⟩ u)) := by
  have hr : takev ⟨a, b, c, d, e, f, g, h, i, j, k⟩ ⟨m0, m1, m2, m3, m4, m5, m6, m7, m8, m9⟩ u = othersv ⟨a, b, c, d, e, f, g, h, i, j, k⟩ ⟨m0, m1, m2, m3, m4, m5, m6, m7, m8, m9⟩ := by simp [takev, hz, h0, h1, h2]
  rw [hr]; clear hr
  have bz : (shake u == 0) = false := by simpa using hz
  clear hz
  have e0 : (a == 0) = false := by simpa using h0
  have e1 : (a == 1) = false := by simpa using h1
  have e2 : (a == 2) = false := by simpa using h2
  go_enter Try.func27, Try.ntmps27
  go_wp2_with (first | (go_at_call 31; refine (Shake_calls _ _).mono ?_; rintro e w' ⟨rfl, rfl⟩) | (go_at_call 35; refine (others_calls _ _ _ _ _ _ _ _ _ _ _ _ _ _ _ _ _ _ _ _ _ _).mono ?_; rintro e w' ⟨v, rfl, hs, hb⟩; obtain ⟨hA, hAf⟩ := held (g := w.heap.size + 1 + 1) hb (by repeat (first | (refine heap_new ?_; (simp; done)) | refine heap_alloc ?_ _ | refine heap_drew ?_)); generalize hfr : othersv _ _ = fr at hs ⊢; obtain ⟨⟨r0, r1, r2, r3, r4, r5, r6, r7, r8, r9, r10⟩, rl⟩ := fr; have Hfr := Lib.hid hfr; clear hfr; have Hs := Lib.hid hs; clear hs; have Hb := Lib.hid hb; clear hb; dsimp only [C.v]))
  rw [Hfr.out]
  refine bodyPost_ret (v := .tuple #[(Value.agg #[.int .i64 r0, .int .i64 r1, .int .u32 r2, .int .u32 r3, .int .u32 r4, .int .u32 r5, .int .i64 r6, .int .i64 r7, .int .u8 r8, .int .i64 r9, .int .i64 r10]), v]) (by simp [results, Try.results27, go_sem, hA]) rfl ⟨_, rfl, (Segs.base (Segs.set11 _ _ _ _ _ _ _ _ _ _ _ Hs.out (by first | omega | (simp; done) | (simp; omega) | (simp only [World.size_alloc]; omega))) (by first | omega | (simp; done) | (simp; omega) | (simp only [World.size_alloc]; omega))), (below_set11 _ _ _ _ _ _ _ _ _ _ _ (Below.trans (by repeat (first | exact Below.refl _ _ | refine Below.drew ?_ | refine below_drewN ?_ _ | (refine Below.alloc ?_ ?hB _; (case hB => first | (simp; done) | (simp; omega))))) (Hb.out.mono (by first | omega | (simp; done) | (simp; omega) | (simp only [World.size_alloc]; omega)))) (by first | omega | (simp; done) | (simp; omega) | (simp only [World.size_alloc]; omega)))⟩
set_option maxHeartbeats 2000000 in
theorem take_o_z (a b c d e f g h i j k m0 m1 m2 m3 m4 m5 m6 m7 m8 m9 u : Int) (hz : shake u = 0) (h0 : ¬ a = 0) (h1 : ¬ a = 1) (h2 : ¬ a = 2) (w : World) : Calls Try.prog 27 #[(Value.agg #[.int .i64 a, .int .i64 b, .int .u32 c, .int .u32 d, .int .u32 e, .int .u32 f, .int .i64 g, .int .i64 h, .int .u8 i, .int .i64 j, .int .i64 k]), (Value.agg #[.int .u16 m0, .int .u16 m1, .int .u32 m2, .int .u32 m3, .int .u8 m4, .int .u8 m5, .int .u8 m6, .int .u16 m7, .int .u16 m8, .int .u16 m9]), .int .i64 u] w (CPost w (takev ⟨a, b, c, d, e, f, g, h, i, j, k⟩ ⟨m0, m1, m2, m3, m4, m5, m6, m7, m8, m9⟩ u)) := by
  have hr : takev ⟨a, b, c, d, e, f, g, h, i, j, k⟩ ⟨m0, m1, m2, m3, m4, m5, m6, m7, m8, m9⟩ u = othersv ⟨a, b, c, d, e, f, g, h, i, j, k⟩ ⟨m0, m1, m2, m3, m4, m5, m6, m7, m8, m9⟩ := by simp [takev, hz, h0, h1, h2]
  rw [hr]; clear hr
  have bz : (shake u == 0) = true := by simpa using hz
  clear hz
  have e0 : (a == 0) = false := by simpa using h0
  have e1 : (a == 1) = false := by simpa using h1
  have e2 : (a == 2) = false := by simpa using h2
  go_enter Try.func27, Try.ntmps27
  go_wp2_with (first | (go_at_call 31; refine (Shake_calls _ _).mono ?_; rintro e w' ⟨rfl, rfl⟩) | (go_at_call 35; refine (others_calls _ _ _ _ _ _ _ _ _ _ _ _ _ _ _ _ _ _ _ _ _ _).mono ?_; rintro e w' ⟨v, rfl, hs, hb⟩; obtain ⟨hA, hAf⟩ := held (g := w.heap.size + 1 + 1) hb (by repeat (first | (refine heap_new ?_; (simp; done)) | refine heap_alloc ?_ _ | refine heap_drew ?_)); generalize hfr : othersv _ _ = fr at hs ⊢; obtain ⟨⟨r0, r1, r2, r3, r4, r5, r6, r7, r8, r9, r10⟩, rl⟩ := fr; have Hfr := Lib.hid hfr; clear hfr; have Hs := Lib.hid hs; clear hs; have Hb := Lib.hid hb; clear hb; dsimp only [C.v]))
  rw [Hfr.out]
  refine bodyPost_ret (v := .tuple #[(Value.agg #[.int .i64 r0, .int .i64 r1, .int .u32 r2, .int .u32 r3, .int .u32 r4, .int .u32 r5, .int .i64 r6, .int .i64 r7, .int .u8 r8, .int .i64 r9, .int .i64 r10]), v]) (by simp [results, Try.results27, go_sem, hA]) rfl ⟨_, rfl, (Segs.base (Segs.set11 _ _ _ _ _ _ _ _ _ _ _ Hs.out (by first | omega | (simp; done) | (simp; omega) | (simp only [World.size_alloc]; omega))) (by first | omega | (simp; done) | (simp; omega) | (simp only [World.size_alloc]; omega))), (below_set11 _ _ _ _ _ _ _ _ _ _ _ (Below.trans (by repeat (first | exact Below.refl _ _ | refine Below.drew ?_ | refine below_drewN ?_ _ | (refine Below.alloc ?_ ?hB _; (case hB => first | (simp; done) | (simp; omega))))) (Hb.out.mono (by first | omega | (simp; done) | (simp; omega) | (simp only [World.size_alloc]; omega)))) (by first | omega | (simp; done) | (simp; omega) | (simp only [World.size_alloc]; omega)))⟩

theorem take_calls (a b c d e f g h i j k m0 m1 m2 m3 m4 m5 m6 m7 m8 m9 u : Int) (w : World) : Calls Try.prog 27 #[(Value.agg #[.int .i64 a, .int .i64 b, .int .u32 c, .int .u32 d, .int .u32 e, .int .u32 f, .int .i64 g, .int .i64 h, .int .u8 i, .int .i64 j, .int .i64 k]), (Value.agg #[.int .u16 m0, .int .u16 m1, .int .u32 m2, .int .u32 m3, .int .u8 m4, .int .u8 m5, .int .u8 m6, .int .u16 m7, .int .u16 m8, .int .u16 m9]), .int .i64 u] w (CPost w (takev ⟨a, b, c, d, e, f, g, h, i, j, k⟩ ⟨m0, m1, m2, m3, m4, m5, m6, m7, m8, m9⟩ u)) := by
  by_cases hz : shake u = 0
  · by_cases h0 : a = 0
    · subst h0; exact take_0_z (b := b) (c := c) (d := d) (e := e) (f := f) (g := g) (h := h) (i := i) (j := j) (k := k) (m0 := m0) (m1 := m1) (m2 := m2) (m3 := m3) (m4 := m4) (m5 := m5) (m6 := m6) (m7 := m7) (m8 := m8) (m9 := m9) (u := u) hz w
    by_cases h1 : a = 1
    · subst h1; exact take_1_z (b := b) (c := c) (d := d) (e := e) (f := f) (g := g) (h := h) (i := i) (j := j) (k := k) (m0 := m0) (m1 := m1) (m2 := m2) (m3 := m3) (m4 := m4) (m5 := m5) (m6 := m6) (m7 := m7) (m8 := m8) (m9 := m9) (u := u) hz w
    by_cases h2 : a = 2
    · subst h2; exact take_2_z (b := b) (c := c) (d := d) (e := e) (f := f) (g := g) (h := h) (i := i) (j := j) (k := k) (m0 := m0) (m1 := m1) (m2 := m2) (m3 := m3) (m4 := m4) (m5 := m5) (m6 := m6) (m7 := m7) (m8 := m8) (m9 := m9) (u := u) hz w
    exact take_o_z (a := a) (b := b) (c := c) (d := d) (e := e) (f := f) (g := g) (h := h) (i := i) (j := j) (k := k) (m0 := m0) (m1 := m1) (m2 := m2) (m3 := m3) (m4 := m4) (m5 := m5) (m6 := m6) (m7 := m7) (m8 := m8) (m9 := m9) (u := u) hz h0 h1 h2 w
  · by_cases h0 : a = 0
    · subst h0; exact take_0_n (b := b) (c := c) (d := d) (e := e) (f := f) (g := g) (h := h) (i := i) (j := j) (k := k) (m0 := m0) (m1 := m1) (m2 := m2) (m3 := m3) (m4 := m4) (m5 := m5) (m6 := m6) (m7 := m7) (m8 := m8) (m9 := m9) (u := u) hz w
    by_cases h1 : a = 1
    · subst h1; exact take_1_n (b := b) (c := c) (d := d) (e := e) (f := f) (g := g) (h := h) (i := i) (j := j) (k := k) (m0 := m0) (m1 := m1) (m2 := m2) (m3 := m3) (m4 := m4) (m5 := m5) (m6 := m6) (m7 := m7) (m8 := m8) (m9 := m9) (u := u) hz w
    by_cases h2 : a = 2
    · subst h2; exact take_2_n (b := b) (c := c) (d := d) (e := e) (f := f) (g := g) (h := h) (i := i) (j := j) (k := k) (m0 := m0) (m1 := m1) (m2 := m2) (m3 := m3) (m4 := m4) (m5 := m5) (m6 := m6) (m7 := m7) (m8 := m8) (m9 := m9) (u := u) hz w
    exact take_o_n (a := a) (b := b) (c := c) (d := d) (e := e) (f := f) (g := g) (h := h) (i := i) (j := j) (k := k) (m0 := m0) (m1 := m1) (m2 := m2) (m3 := m3) (m4 := m4) (m5 := m5) (m6 := m6) (m7 := m7) (m8 := m8) (m9 := m9) (u := u) hz h0 h1 h2 w
end Go.Proofs.Ytbklomnlhpbhnaa
