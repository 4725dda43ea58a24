import Derived.Test.YtbklomnlhpbhnaaA9
namespace Go.Proofs.Ytbklomnlhpbhnaa
open Go.RowKit
set_option linter.unusedSimpArgs false

/-- A block that is known whole, in a later world: rules for its cells and marks. -/
theorem held {w w1 : World} {g : Nat} {cs : Array Value} {t : TypeId} (hb : Below w.heap.size w w1) (h : w.heap[g]? = some (.cells cs t (0, 0))) :
    (∀ o, w1.cell? ⟨g, o, none⟩ = cs[o]?) ∧ (∀ o, w1.frozen? ⟨g, o, none⟩ = false) := by
  have hg : g < w.heap.size := by
    rcases Nat.lt_or_ge g w.heap.size with h' | h'
    · exact h'
    · simp [Array.getElem?_eq_none h'] at h
  have h1 : w1.heap[g]? = some (.cells cs t (0, 0)) := (hb.block g hg).trans h
  refine ⟨fun o => ?_, fun o => ?_⟩
  · simp [World.cell?, h1]
  · simp [World.frozen?, h1]
theorem Segs.base {w : World} {B B' : Nat} {v : Value} {l : List H} (h : Segs w B' v l) (hB : B ≤ B') : Segs w B v l := by
  refine ⟨h.1, ?_⟩
  rcases h.2 with h2 | ⟨g, cap, cur, hv, hb, r⟩
  · exact .inl h2
  · exact .inr ⟨g, cap, cur, hv, Nat.le_trans hB hb, r⟩
theorem Segs.set {w : World} {B g o : Nat} {v x : Value} {l : List H} (h : Segs w B v l) (hg : g < B) : Segs (w.setCell ⟨g, o, none⟩ x) B v l := by
  refine ⟨h.1, ?_⟩
  rcases h.2 with h2 | ⟨g', cap, cur, hv, hb, hh, r⟩
  · exact .inl h2
  · refine .inr ⟨g', cap, cur, hv, hb, ?_, r⟩
    rw [Below.heap_setCell _ _ _ _ (show g' ≠ g by omega)]
    exact hh
theorem Segs.set11 {w : World} {B g : Nat} {v : Value} {l : List H} (x0 x1 x2 x3 x4 x5 x6 x7 x8 x9 x10 : Value) (h : Segs w B v l) (hg : g < B) : Segs (((((((((((w.setCell ⟨g, 0, none⟩ x0).setCell ⟨g, 1, none⟩ x1).setCell ⟨g, 2, none⟩ x2).setCell ⟨g, 3, none⟩ x3).setCell ⟨g, 4, none⟩ x4).setCell ⟨g, 5, none⟩ x5).setCell ⟨g, 6, none⟩ x6).setCell ⟨g, 7, none⟩ x7).setCell ⟨g, 8, none⟩ x8).setCell ⟨g, 9, none⟩ x9).setCell ⟨g, 10, none⟩ x10) B v l := (((((((((((h.set hg).set hg).set hg).set hg).set hg).set hg).set hg).set hg).set hg).set hg).set hg)
theorem below_set11 {a w : World} {B g : Nat} (x0 x1 x2 x3 x4 x5 x6 x7 x8 x9 x10 : Value) (h : Below B a w) (hg : B ≤ g) : Below B a (((((((((((w.setCell ⟨g, 0, none⟩ x0).setCell ⟨g, 1, none⟩ x1).setCell ⟨g, 2, none⟩ x2).setCell ⟨g, 3, none⟩ x3).setCell ⟨g, 4, none⟩ x4).setCell ⟨g, 5, none⟩ x5).setCell ⟨g, 6, none⟩ x6).setCell ⟨g, 7, none⟩ x7).setCell ⟨g, 8, none⟩ x8).setCell ⟨g, 9, none⟩ x9).setCell ⟨g, 10, none⟩ x10) := (Below.setCell (Below.setCell (Below.setCell (Below.setCell (Below.setCell (Below.setCell (Below.setCell (Below.setCell (Below.setCell (Below.setCell (Below.setCell h (p := ⟨g, 0, none⟩) hg _) (p := ⟨g, 1, none⟩) hg _) (p := ⟨g, 2, none⟩) hg _) (p := ⟨g, 3, none⟩) hg _) (p := ⟨g, 4, none⟩) hg _) (p := ⟨g, 5, none⟩) hg _) (p := ⟨g, 6, none⟩) hg _) (p := ⟨g, 7, none⟩) hg _) (p := ⟨g, 8, none⟩) hg _) (p := ⟨g, 9, none⟩) hg _) (p := ⟨g, 10, none⟩) hg _)
set_option maxHeartbeats 2000000 in
theorem to_1 (b c d e f g h i j k m0 m1 m2 m3 m4 m5 m6 m7 m8 m9 : Int) (h4 : has m6 4 = false) (h2 : has m6 2 = false) (h16 : has m6 16 = true) (hnx : newer m3 e = false) (hnu : newer m3 d = false)  (hs : m2 = f) (hq : ¬ d = e) (w : World) : Calls Try.prog 35 #[(Value.agg #[.int .i64 3, .int .i64 b, .int .u32 c, .int .u32 d, .int .u32 e, .int .u32 f, .int .i64 g, .int .i64 h, .int .u8 i, .int .i64 j, .int .i64 k]), (Value.agg #[.int .u16 m0, .int .u16 m1, .int .u32 m2, .int .u32 m3, .int .u8 m4, .int .u8 m5, .int .u8 m6, .int .u16 m7, .int .u16 m8, .int .u16 m9])] w (CPost w (othersv ⟨3, b, c, d, e, f, g, h, i, j, k⟩ ⟨m0, m1, m2, m3, m4, m5, m6, m7, m8, m9⟩)) := by
  have hr : othersv ⟨3, b, c, d, e, f, g, h, i, j, k⟩ ⟨m0, m1, m2, m3, m4, m5, m6, m7, m8, m9⟩ = (⟨3, b, c, d, e, f, g, h, i, j, k⟩, []) := by simp only [othersv, tailv, openedv, h4, h2, h16, hnx, hnu]; simp [hs, hq]
  rw [hr]; clear hr
  have bhs : (m2 == f) = true := by simpa using hs
  have nhs : (m2 != f) = false := by simpa using hs
  clear hs
  have bhq : (d == e) = false := by simpa using hq
  have nhq : (d != e) = true := by simpa using hq
  clear hq
  go_enter Try.func35, Try.ntmps35
  go_wp2_with (first | (go_at_call 38; refine (has_calls _ _ _ _ _ _ _ _ _ _ _ _).mono ?_; rintro e w' ⟨rfl, rfl⟩) | (go_at_call 43; refine (newer_calls _ _ _).mono ?_; rintro e w' ⟨rfl, rfl⟩))
  refine bodyPost_ret (v := .tuple #[(Value.agg #[.int .i64 3, .int .i64 b, .int .u32 c, .int .u32 d, .int .u32 e, .int .u32 f, .int .i64 g, .int .i64 h, .int .u8 i, .int .i64 j, .int .i64 k]), .slice none 0 0]) (by simp [results, Try.results35, go_sem]) rfl ⟨_, rfl, Segs.nil _ _, (by repeat (first | exact Below.refl _ _ | refine Below.drew ?_ | refine below_drewN ?_ _ | (refine Below.alloc ?_ ?hB _; (case hB => first | (simp; done) | (simp; omega)))))⟩

set_option maxHeartbeats 2000000 in
theorem to_6 (a b c d e f g h i j k m0 m1 m2 m3 m4 m5 m6 m7 m8 m9 : Int) (h4 : has m6 4 = false) (h2 : has m6 2 = false) (h16 : has m6 16 = true) (hnx : newer m3 e = false) (hnu : newer m3 d = false) (h1 : has m6 1 = false) (hs : m2 = f) (h3 : ¬ a = 3) (hq : ¬ d = e) (w : World) : Calls Try.prog 35 #[(Value.agg #[.int .i64 a, .int .i64 b, .int .u32 c, .int .u32 d, .int .u32 e, .int .u32 f, .int .i64 g, .int .i64 h, .int .u8 i, .int .i64 j, .int .i64 k]), (Value.agg #[.int .u16 m0, .int .u16 m1, .int .u32 m2, .int .u32 m3, .int .u8 m4, .int .u8 m5, .int .u8 m6, .int .u16 m7, .int .u16 m8, .int .u16 m9])] w (CPost w (othersv ⟨a, b, c, d, e, f, g, h, i, j, k⟩ ⟨m0, m1, m2, m3, m4, m5, m6, m7, m8, m9⟩)) := by
  have hr : othersv ⟨a, b, c, d, e, f, g, h, i, j, k⟩ ⟨m0, m1, m2, m3, m4, m5, m6, m7, m8, m9⟩ = (⟨a, b, c, d, e, f, g, h, i, j, k⟩, []) := by simp only [othersv, tailv, openedv, h4, h2, h16, hnx, hnu]; simp [hs, h3, hq, h1]
  rw [hr]; clear hr
  have bhs : (m2 == f) = true := by simpa using hs
  have nhs : (m2 != f) = false := by simpa using hs
  clear hs
  have bh3 : (a == 3) = false := by simpa using h3
  have nh3 : (a != 3) = true := by simpa using h3
  clear h3
  have bhq : (d == e) = false := by simpa using hq
  have nhq : (d != e) = true := by simpa using hq
  clear hq
  go_enter Try.func35, Try.ntmps35
  go_wp2_with (first | (go_at_call 38; refine (has_calls _ _ _ _ _ _ _ _ _ _ _ _).mono ?_; rintro e w' ⟨rfl, rfl⟩) | (go_at_call 43; refine (newer_calls _ _ _).mono ?_; rintro e w' ⟨rfl, rfl⟩))
  refine bodyPost_ret (v := .tuple #[(Value.agg #[.int .i64 a, .int .i64 b, .int .u32 c, .int .u32 d, .int .u32 e, .int .u32 f, .int .i64 g, .int .i64 h, .int .u8 i, .int .i64 j, .int .i64 k]), .slice none 0 0]) (by simp [results, Try.results35, go_sem]) rfl ⟨_, rfl, Segs.nil _ _, (by repeat (first | exact Below.refl _ _ | refine Below.drew ?_ | refine below_drewN ?_ _ | (refine Below.alloc ?_ ?hB _; (case hB => first | (simp; done) | (simp; omega)))))⟩

set_option maxHeartbeats 2000000 in
theorem to_7 (a b c d e f g h i j k m0 m1 m2 m3 m4 m5 m6 m7 m8 m9 : Int) (h4 : has m6 4 = false) (h2 : has m6 2 = false) (h16 : has m6 16 = true) (hnx : newer m3 e = false) (hnu : newer m3 d = false) (h1 : has m6 1 = true) (hs : m2 = f) (h3 : ¬ a = 3) (hq : ¬ d = e) (w : World) : Calls Try.prog 35 #[(Value.agg #[.int .i64 a, .int .i64 b, .int .u32 c, .int .u32 d, .int .u32 e, .int .u32 f, .int .i64 g, .int .i64 h, .int .u8 i, .int .i64 j, .int .i64 k]), (Value.agg #[.int .u16 m0, .int .u16 m1, .int .u32 m2, .int .u32 m3, .int .u8 m4, .int .u8 m5, .int .u8 m6, .int .u16 m7, .int .u16 m8, .int .u16 m9])] w (CPost w (othersv ⟨a, b, c, d, e, f, g, h, i, j, k⟩ ⟨m0, m1, m2, m3, m4, m5, m6, m7, m8, m9⟩)) := by
  have hr : othersv ⟨a, b, c, d, e, f, g, h, i, j, k⟩ ⟨m0, m1, m2, m3, m4, m5, m6, m7, m8, m9⟩ = finv ⟨a, b, c, d, e, f, g, h, i, j, k⟩ := by simp only [othersv, tailv, openedv, h4, h2, h16, hnx, hnu]; simp [hs, h3, hq, h1]
  rw [hr]; clear hr
  have bhs : (m2 == f) = true := by simpa using hs
  have nhs : (m2 != f) = false := by simpa using hs
  clear hs
  have bh3 : (a == 3) = false := by simpa using h3
  have nh3 : (a != 3) = true := by simpa using h3
  clear h3
  have bhq : (d == e) = false := by simpa using hq
  have nhq : (d != e) = true := by simpa using hq
  clear hq
  go_enter Try.func35, Try.ntmps35
  go_wp2_with (first | (go_at_call 38; refine (has_calls _ _ _ _ _ _ _ _ _ _ _ _).mono ?_; rintro e w' ⟨rfl, rfl⟩) | (go_at_call 43; refine (newer_calls _ _ _).mono ?_; rintro e w' ⟨rfl, rfl⟩) | (go_at_call 46; refine (fin_calls _ _ _ _ _ _ _ _ _ _ _ _).mono ?_; rintro e w' ⟨v, rfl, hs, hb⟩; obtain ⟨hA, hAf⟩ := held (g := w.heap.size + 1 + 1) hb (by repeat (first | (refine heap_new ?_; (simp; done)) | refine heap_alloc ?_ _ | refine heap_drew ?_)); generalize hfr : finv _ = fr at hs ⊢; obtain ⟨⟨r0, r1, r2, r3, r4, r5, r6, r7, r8, r9, r10⟩, rl⟩ := fr; have Hfr := Lib.hid hfr; clear hfr; have Hs := Lib.hid hs; clear hs; have Hb := Lib.hid hb; clear hb; dsimp only [C.v]))
  rw [Hfr.out]
  refine bodyPost_ret (v := .tuple #[(Value.agg #[.int .i64 r0, .int .i64 r1, .int .u32 r2, .int .u32 r3, .int .u32 r4, .int .u32 r5, .int .i64 r6, .int .i64 r7, .int .u8 r8, .int .i64 r9, .int .i64 r10]), v]) (by simp [results, Try.results35, go_sem, hA]) rfl ⟨_, rfl, (Segs.base (Segs.set11 _ _ _ _ _ _ _ _ _ _ _ Hs.out (by first | omega | (simp; done) | (simp; omega) | (simp only [World.size_alloc]; omega))) (by first | omega | (simp; done) | (simp; omega) | (simp only [World.size_alloc]; omega))), (below_set11 _ _ _ _ _ _ _ _ _ _ _ (Below.trans (by repeat (first | exact Below.refl _ _ | refine Below.drew ?_ | refine below_drewN ?_ _ | (refine Below.alloc ?_ ?hB _; (case hB => first | (simp; done) | (simp; omega))))) (Hb.out.mono (by first | omega | (simp; done) | (simp; omega) | (simp only [World.size_alloc]; omega)))) (by first | omega | (simp; done) | (simp; omega) | (simp only [World.size_alloc]; omega)))⟩

set_option maxHeartbeats 2000000 in
theorem to_4 (a b c d e f g h i j k m0 m1 m2 m3 m4 m5 m6 m7 m8 m9 : Int) (h4 : has m6 4 = false) (h2 : has m6 2 = false) (h16 : has m6 16 = true) (hnx : newer m3 e = false) (hnu : newer m3 d = false) (h1 : has m6 1 = false) (hs : m2 = f) (h3 : ¬ a = 3) (hq : d = e) (w : World) : Calls Try.prog 35 #[(Value.agg #[.int .i64 a, .int .i64 b, .int .u32 c, .int .u32 d, .int .u32 e, .int .u32 f, .int .i64 g, .int .i64 h, .int .u8 i, .int .i64 j, .int .i64 k]), (Value.agg #[.int .u16 m0, .int .u16 m1, .int .u32 m2, .int .u32 m3, .int .u8 m4, .int .u8 m5, .int .u8 m6, .int .u16 m7, .int .u16 m8, .int .u16 m9])] w (CPost w (othersv ⟨a, b, c, d, e, f, g, h, i, j, k⟩ ⟨m0, m1, m2, m3, m4, m5, m6, m7, m8, m9⟩)) := by
  have hr : othersv ⟨a, b, c, d, e, f, g, h, i, j, k⟩ ⟨m0, m1, m2, m3, m4, m5, m6, m7, m8, m9⟩ = (⟨heardv a, b, c, d, e, f, g, h, i, j, k⟩, []) := by simp only [othersv, tailv, openedv, h4, h2, h16, hnx, hnu]; simp [hs, h3, hq, h1]
  rw [hr]; clear hr
  have bhs : (m2 == f) = true := by simpa using hs
  have nhs : (m2 != f) = false := by simpa using hs
  clear hs
  have bh3 : (a == 3) = false := by simpa using h3
  have nh3 : (a != 3) = true := by simpa using h3
  clear h3
  have bhq : (d == e) = true := by simpa using hq
  have nhq : (d != e) = false := by simpa using hq
  clear hq
  go_enter Try.func35, Try.ntmps35
  go_wp2_with (first | (go_at_call 38; refine (has_calls _ _ _ _ _ _ _ _ _ _ _ _).mono ?_; rintro e w' ⟨rfl, rfl⟩) | (go_at_call 43; refine (newer_calls _ _ _).mono ?_; rintro e w' ⟨rfl, rfl⟩) | (go_at_call 45; refine (heard_calls _ _).mono ?_; rintro e w' ⟨rfl, rfl⟩))
  refine bodyPost_ret (v := .tuple #[(Value.agg #[.int .i64 (heardv a), .int .i64 b, .int .u32 c, .int .u32 d, .int .u32 e, .int .u32 f, .int .i64 g, .int .i64 h, .int .u8 i, .int .i64 j, .int .i64 k]), .slice none 0 0]) (by simp [results, Try.results35, go_sem]) rfl ⟨_, rfl, Segs.nil _ _, (by repeat (first | exact Below.refl _ _ | refine Below.drew ?_ | refine below_drewN ?_ _ | (refine Below.alloc ?_ ?hB _; (case hB => first | (simp; done) | (simp; omega)))))⟩

set_option maxHeartbeats 2000000 in
theorem to_5 (a b c d e f g h i j k m0 m1 m2 m3 m4 m5 m6 m7 m8 m9 : Int) (h4 : has m6 4 = false) (h2 : has m6 2 = false) (h16 : has m6 16 = true) (hnx : newer m3 e = false) (hnu : newer m3 d = false) (h1 : has m6 1 = true) (hs : m2 = f) (h3 : ¬ a = 3) (hq : d = e) (w : World) : Calls Try.prog 35 #[(Value.agg #[.int .i64 a, .int .i64 b, .int .u32 c, .int .u32 d, .int .u32 e, .int .u32 f, .int .i64 g, .int .i64 h, .int .u8 i, .int .i64 j, .int .i64 k]), (Value.agg #[.int .u16 m0, .int .u16 m1, .int .u32 m2, .int .u32 m3, .int .u8 m4, .int .u8 m5, .int .u8 m6, .int .u16 m7, .int .u16 m8, .int .u16 m9])] w (CPost w (othersv ⟨a, b, c, d, e, f, g, h, i, j, k⟩ ⟨m0, m1, m2, m3, m4, m5, m6, m7, m8, m9⟩)) := by
  have hr : othersv ⟨a, b, c, d, e, f, g, h, i, j, k⟩ ⟨m0, m1, m2, m3, m4, m5, m6, m7, m8, m9⟩ = finv ⟨heardv a, b, c, d, e, f, g, h, i, j, k⟩ := by simp only [othersv, tailv, openedv, h4, h2, h16, hnx, hnu]; simp [hs, h3, hq, h1]
  rw [hr]; clear hr
  have bhs : (m2 == f) = true := by simpa using hs
  have nhs : (m2 != f) = false := by simpa using hs
  clear hs
  have bh3 : (a == 3) = false := by simpa using h3
  have nh3 : (a != 3) = true := by simpa using h3
  clear h3
  have bhq : (d == e) = true := by simpa using hq
  have nhq : (d != e) = false := by simpa using hq
  clear hq
  go_enter Try.func35, Try.ntmps35
  go_wp2_with (first | (go_at_call 38; refine (has_calls _ _ _ _ _ _ _ _ _ _ _ _).mono ?_; rintro e w' ⟨rfl, rfl⟩) | (go_at_call 43; refine (newer_calls _ _ _).mono ?_; rintro e w' ⟨rfl, rfl⟩) | (go_at_call 45; refine (heard_calls _ _).mono ?_; rintro e w' ⟨rfl, rfl⟩) | (go_at_call 46; refine (fin_calls _ _ _ _ _ _ _ _ _ _ _ _).mono ?_; rintro e w' ⟨v, rfl, hs, hb⟩; obtain ⟨hA, hAf⟩ := held (g := w.heap.size + 1 + 1) hb (by repeat (first | (refine heap_new ?_; (simp; done)) | refine heap_alloc ?_ _ | refine heap_drew ?_)); generalize hfr : finv _ = fr at hs ⊢; obtain ⟨⟨r0, r1, r2, r3, r4, r5, r6, r7, r8, r9, r10⟩, rl⟩ := fr; have Hfr := Lib.hid hfr; clear hfr; have Hs := Lib.hid hs; clear hs; have Hb := Lib.hid hb; clear hb; dsimp only [C.v]))
  rw [Hfr.out]
  refine bodyPost_ret (v := .tuple #[(Value.agg #[.int .i64 r0, .int .i64 r1, .int .u32 r2, .int .u32 r3, .int .u32 r4, .int .u32 r5, .int .i64 r6, .int .i64 r7, .int .u8 r8, .int .i64 r9, .int .i64 r10]), v]) (by simp [results, Try.results35, go_sem, hA]) rfl ⟨_, rfl, (Segs.base (Segs.set11 _ _ _ _ _ _ _ _ _ _ _ Hs.out (by first | omega | (simp; done) | (simp; omega) | (simp only [World.size_alloc]; omega))) (by first | omega | (simp; done) | (simp; omega) | (simp only [World.size_alloc]; omega))), (below_set11 _ _ _ _ _ _ _ _ _ _ _ (Below.trans (by repeat (first | exact Below.refl _ _ | refine Below.drew ?_ | refine below_drewN ?_ _ | (refine Below.alloc ?_ ?hB _; (case hB => first | (simp; done) | (simp; omega))))) (Hb.out.mono (by first | omega | (simp; done) | (simp; omega) | (simp only [World.size_alloc]; omega)))) (by first | omega | (simp; done) | (simp; omega) | (simp only [World.size_alloc]; omega)))⟩

set_option maxHeartbeats 2000000 in
theorem to_2y (b c d e f h i j k m0 m1 m2 m3 m4 m5 m6 m7 m8 m9 : Int) (h4 : has m6 4 = false) (h2 : has m6 2 = false) (h16 : has m6 16 = true) (hnx : newer m3 e = false) (hnu : newer m3 d = false) (h1 : has m6 1 = false) (hs : m2 = f) (hq : d = e) (w : World) : Calls Try.prog 35 #[(Value.agg #[.int .i64 3, .int .i64 b, .int .u32 c, .int .u32 d, .int .u32 e, .int .u32 f, .int .i64 2, .int .i64 h, .int .u8 i, .int .i64 j, .int .i64 k]), (Value.agg #[.int .u16 m0, .int .u16 m1, .int .u32 m2, .int .u32 m3, .int .u8 m4, .int .u8 m5, .int .u8 m6, .int .u16 m7, .int .u16 m8, .int .u16 m9])] w (CPost w (othersv ⟨3, b, c, d, e, f, 2, h, i, j, k⟩ ⟨m0, m1, m2, m3, m4, m5, m6, m7, m8, m9⟩)) := by
  have hr : othersv ⟨3, b, c, d, e, f, 2, h, i, j, k⟩ ⟨m0, m1, m2, m3, m4, m5, m6, m7, m8, m9⟩ = (⟨4, b, c, d, e, f, 2, h, i, startv m5, k⟩, []) := by simp only [othersv, tailv, openedv, h4, h2, h16, hnx, hnu]; simp [hs, hq, h1]
  rw [hr]; clear hr
  have bhs : (m2 == f) = true := by simpa using hs
  have nhs : (m2 != f) = false := by simpa using hs
  clear hs
  have bhq : (d == e) = true := by simpa using hq
  have nhq : (d != e) = false := by simpa using hq
  clear hq
  have hh4 : heardv 4 = 4 := rfl
  go_enter Try.func35, Try.ntmps35
  go_wp2_with (first | (go_at_call 38; refine (has_calls _ _ _ _ _ _ _ _ _ _ _ _).mono ?_; rintro e w' ⟨rfl, rfl⟩) | (go_at_call 43; refine (newer_calls _ _ _).mono ?_; rintro e w' ⟨rfl, rfl⟩) | (go_at_call 45; refine (heard_calls _ _).mono ?_; rintro e w' ⟨rfl, rfl⟩) | (go_at_call 44; refine (opened_yes _ _ _ _ _ _ _ _ _ _ _ _ _ _ _ _ _ _ _ _ _).mono ?_; rintro e w' ⟨rfl, rfl⟩))
  refine bodyPost_ret (v := .tuple #[(Value.agg #[.int .i64 4, .int .i64 b, .int .u32 c, .int .u32 d, .int .u32 e, .int .u32 f, .int .i64 2, .int .i64 h, .int .u8 i, .int .i64 (startv m5), .int .i64 k]), .slice none 0 0]) (by simp [results, Try.results35, go_sem]) rfl ⟨_, rfl, Segs.nil _ _, (by repeat (first | exact Below.refl _ _ | refine Below.drew ?_ | refine below_drewN ?_ _ | (refine Below.alloc ?_ ?hB _; (case hB => first | (simp; done) | (simp; omega)))))⟩

set_option maxHeartbeats 2000000 in
theorem to_2n (b c d e f g h i j k m0 m1 m2 m3 m4 m5 m6 m7 m8 m9 : Int) (h4 : has m6 4 = false) (h2 : has m6 2 = false) (h16 : has m6 16 = true) (hnx : newer m3 e = false) (hnu : newer m3 d = false) (hgm : ¬ g = 2) (h1 : has m6 1 = false) (hs : m2 = f) (hq : d = e) (w : World) : Calls Try.prog 35 #[(Value.agg #[.int .i64 3, .int .i64 b, .int .u32 c, .int .u32 d, .int .u32 e, .int .u32 f, .int .i64 g, .int .i64 h, .int .u8 i, .int .i64 j, .int .i64 k]), (Value.agg #[.int .u16 m0, .int .u16 m1, .int .u32 m2, .int .u32 m3, .int .u8 m4, .int .u8 m5, .int .u8 m6, .int .u16 m7, .int .u16 m8, .int .u16 m9])] w (CPost w (othersv ⟨3, b, c, d, e, f, g, h, i, j, k⟩ ⟨m0, m1, m2, m3, m4, m5, m6, m7, m8, m9⟩)) := by
  have hr : othersv ⟨3, b, c, d, e, f, g, h, i, j, k⟩ ⟨m0, m1, m2, m3, m4, m5, m6, m7, m8, m9⟩ = (⟨4, b, c, d, e, f, g, h, i, j, k⟩, []) := by simp only [othersv, tailv, openedv, h4, h2, h16, hnx, hnu]; simp [hs, hq, h1, hgm]
  rw [hr]; clear hr
  have bhs : (m2 == f) = true := by simpa using hs
  have nhs : (m2 != f) = false := by simpa using hs
  clear hs
  have bhq : (d == e) = true := by simpa using hq
  have nhq : (d != e) = false := by simpa using hq
  clear hq
  have hh4 : heardv 4 = 4 := rfl
  go_enter Try.func35, Try.ntmps35
  go_wp2_with (first | (go_at_call 38; refine (has_calls _ _ _ _ _ _ _ _ _ _ _ _).mono ?_; rintro e w' ⟨rfl, rfl⟩) | (go_at_call 43; refine (newer_calls _ _ _).mono ?_; rintro e w' ⟨rfl, rfl⟩) | (go_at_call 45; refine (heard_calls _ _).mono ?_; rintro e w' ⟨rfl, rfl⟩) | (go_at_call 44; refine (opened_no _ _ _ _ _ _ _ _ _ _ _ _ _ _ _ _ _ _ _ _ _ (by assumption) _).mono ?_; rintro e w' ⟨rfl, rfl⟩))
  refine bodyPost_ret (v := .tuple #[(Value.agg #[.int .i64 4, .int .i64 b, .int .u32 c, .int .u32 d, .int .u32 e, .int .u32 f, .int .i64 g, .int .i64 h, .int .u8 i, .int .i64 j, .int .i64 k]), .slice none 0 0]) (by simp [results, Try.results35, go_sem]) rfl ⟨_, rfl, Segs.nil _ _, (by repeat (first | exact Below.refl _ _ | refine Below.drew ?_ | refine below_drewN ?_ _ | (refine Below.alloc ?_ ?hB _; (case hB => first | (simp; done) | (simp; omega)))))⟩

set_option maxHeartbeats 2000000 in
theorem to_3y (b c d e f h i j k m0 m1 m2 m3 m4 m5 m6 m7 m8 m9 : Int) (h4 : has m6 4 = false) (h2 : has m6 2 = false) (h16 : has m6 16 = true) (hnx : newer m3 e = false) (hnu : newer m3 d = false) (h1 : has m6 1 = true) (hs : m2 = f) (hq : d = e) (w : World) : Calls Try.prog 35 #[(Value.agg #[.int .i64 3, .int .i64 b, .int .u32 c, .int .u32 d, .int .u32 e, .int .u32 f, .int .i64 2, .int .i64 h, .int .u8 i, .int .i64 j, .int .i64 k]), (Value.agg #[.int .u16 m0, .int .u16 m1, .int .u32 m2, .int .u32 m3, .int .u8 m4, .int .u8 m5, .int .u8 m6, .int .u16 m7, .int .u16 m8, .int .u16 m9])] w (CPost w (othersv ⟨3, b, c, d, e, f, 2, h, i, j, k⟩ ⟨m0, m1, m2, m3, m4, m5, m6, m7, m8, m9⟩)) := by
  have hr : othersv ⟨3, b, c, d, e, f, 2, h, i, j, k⟩ ⟨m0, m1, m2, m3, m4, m5, m6, m7, m8, m9⟩ = finv ⟨4, b, c, d, e, f, 2, h, i, startv m5, k⟩ := by simp only [othersv, tailv, openedv, h4, h2, h16, hnx, hnu]; simp [hs, hq, h1]
  rw [hr]; clear hr
  have bhs : (m2 == f) = true := by simpa using hs
  have nhs : (m2 != f) = false := by simpa using hs
  clear hs
  have bhq : (d == e) = true := by simpa using hq
  have nhq : (d != e) = false := by simpa using hq
  clear hq
  have hh4 : heardv 4 = 4 := rfl
  go_enter Try.func35, Try.ntmps35
  go_wp2_with (first | (go_at_call 38; refine (has_calls _ _ _ _ _ _ _ _ _ _ _ _).mono ?_; rintro e w' ⟨rfl, rfl⟩) | (go_at_call 43; refine (newer_calls _ _ _).mono ?_; rintro e w' ⟨rfl, rfl⟩) | (go_at_call 45; refine (heard_calls _ _).mono ?_; rintro e w' ⟨rfl, rfl⟩) | (go_at_call 44; refine (opened_yes _ _ _ _ _ _ _ _ _ _ _ _ _ _ _ _ _ _ _ _ _).mono ?_; rintro e w' ⟨rfl, rfl⟩) | (go_at_call 46; refine (fin_calls _ _ _ _ _ _ _ _ _ _ _ _).mono ?_; rintro e w' ⟨v, rfl, hs, hb⟩; obtain ⟨hA, hAf⟩ := held (g := w.heap.size + 1 + 1) hb (by repeat (first | (refine heap_new ?_; (simp; done)) | refine heap_alloc ?_ _ | refine heap_drew ?_)); generalize hfr : finv _ = fr at hs ⊢; obtain ⟨⟨r0, r1, r2, r3, r4, r5, r6, r7, r8, r9, r10⟩, rl⟩ := fr; have Hfr := Lib.hid hfr; clear hfr; have Hs := Lib.hid hs; clear hs; have Hb := Lib.hid hb; clear hb; dsimp only [C.v]))
  rw [Hfr.out]
  refine bodyPost_ret (v := .tuple #[(Value.agg #[.int .i64 r0, .int .i64 r1, .int .u32 r2, .int .u32 r3, .int .u32 r4, .int .u32 r5, .int .i64 r6, .int .i64 r7, .int .u8 r8, .int .i64 r9, .int .i64 r10]), v]) (by simp [results, Try.results35, go_sem, hA]) rfl ⟨_, rfl, (Segs.base (Segs.set11 _ _ _ _ _ _ _ _ _ _ _ Hs.out (by first | omega | (simp; done) | (simp; omega) | (simp only [World.size_alloc]; omega))) (by first | omega | (simp; done) | (simp; omega) | (simp only [World.size_alloc]; omega))), (below_set11 _ _ _ _ _ _ _ _ _ _ _ (Below.trans (by repeat (first | exact Below.refl _ _ | refine Below.drew ?_ | refine below_drewN ?_ _ | (refine Below.alloc ?_ ?hB _; (case hB => first | (simp; done) | (simp; omega))))) (Hb.out.mono (by first | omega | (simp; done) | (simp; omega) | (simp only [World.size_alloc]; omega)))) (by first | omega | (simp; done) | (simp; omega) | (simp only [World.size_alloc]; omega)))⟩

set_option maxHeartbeats 2000000 in
theorem to_3n (b c d e f g h i j k m0 m1 m2 m3 m4 m5 m6 m7 m8 m9 : Int) (h4 : has m6 4 = false) (h2 : has m6 2 = false) (h16 : has m6 16 = true) (hnx : newer m3 e = false) (hnu : newer m3 d = false) (hgm : ¬ g = 2) (h1 : has m6 1 = true) (hs : m2 = f) (hq : d = e) (w : World) : Calls Try.prog 35 #[(Value.agg #[.int .i64 3, .int .i64 b, .int .u32 c, .int .u32 d, .int .u32 e, .int .u32 f, .int .i64 g, .int .i64 h, .int .u8 i, .int .i64 j, .int .i64 k]), (Value.agg #[.int .u16 m0, .int .u16 m1, .int .u32 m2, .int .u32 m3, .int .u8 m4, .int .u8 m5, .int .u8 m6, .int .u16 m7, .int .u16 m8, .int .u16 m9])] w (CPost w (othersv ⟨3, b, c, d, e, f, g, h, i, j, k⟩ ⟨m0, m1, m2, m3, m4, m5, m6, m7, m8, m9⟩)) := by
  have hr : othersv ⟨3, b, c, d, e, f, g, h, i, j, k⟩ ⟨m0, m1, m2, m3, m4, m5, m6, m7, m8, m9⟩ = finv ⟨4, b, c, d, e, f, g, h, i, j, k⟩ := by simp only [othersv, tailv, openedv, h4, h2, h16, hnx, hnu]; simp [hs, hq, h1, hgm]
  rw [hr]; clear hr
  have bhs : (m2 == f) = true := by simpa using hs
  have nhs : (m2 != f) = false := by simpa using hs
  clear hs
  have bhq : (d == e) = true := by simpa using hq
  have nhq : (d != e) = false := by simpa using hq
  clear hq
  have hh4 : heardv 4 = 4 := rfl
  go_enter Try.func35, Try.ntmps35
  go_wp2_with (first | (go_at_call 38; refine (has_calls _ _ _ _ _ _ _ _ _ _ _ _).mono ?_; rintro e w' ⟨rfl, rfl⟩) | (go_at_call 43; refine (newer_calls _ _ _).mono ?_; rintro e w' ⟨rfl, rfl⟩) | (go_at_call 45; refine (heard_calls _ _).mono ?_; rintro e w' ⟨rfl, rfl⟩) | (go_at_call 44; refine (opened_no _ _ _ _ _ _ _ _ _ _ _ _ _ _ _ _ _ _ _ _ _ (by assumption) _).mono ?_; rintro e w' ⟨rfl, rfl⟩) | (go_at_call 46; refine (fin_calls _ _ _ _ _ _ _ _ _ _ _ _).mono ?_; rintro e w' ⟨v, rfl, hs, hb⟩; obtain ⟨hA, hAf⟩ := held (g := w.heap.size + 1 + 1) hb (by repeat (first | (refine heap_new ?_; (simp; done)) | refine heap_alloc ?_ _ | refine heap_drew ?_)); generalize hfr : finv _ = fr at hs ⊢; obtain ⟨⟨r0, r1, r2, r3, r4, r5, r6, r7, r8, r9, r10⟩, rl⟩ := fr; have Hfr := Lib.hid hfr; clear hfr; have Hs := Lib.hid hs; clear hs; have Hb := Lib.hid hb; clear hb; dsimp only [C.v]))
  rw [Hfr.out]
  refine bodyPost_ret (v := .tuple #[(Value.agg #[.int .i64 r0, .int .i64 r1, .int .u32 r2, .int .u32 r3, .int .u32 r4, .int .u32 r5, .int .i64 r6, .int .i64 r7, .int .u8 r8, .int .i64 r9, .int .i64 r10]), v]) (by simp [results, Try.results35, go_sem, hA]) rfl ⟨_, rfl, (Segs.base (Segs.set11 _ _ _ _ _ _ _ _ _ _ _ Hs.out (by first | omega | (simp; done) | (simp; omega) | (simp only [World.size_alloc]; omega))) (by first | omega | (simp; done) | (simp; omega) | (simp only [World.size_alloc]; omega))), (below_set11 _ _ _ _ _ _ _ _ _ _ _ (Below.trans (by repeat (first | exact Below.refl _ _ | refine Below.drew ?_ | refine below_drewN ?_ _ | (refine Below.alloc ?_ ?hB _; (case hB => first | (simp; done) | (simp; omega))))) (Hb.out.mono (by first | omega | (simp; done) | (simp; omega) | (simp only [World.size_alloc]; omega)))) (by first | omega | (simp; done) | (simp; omega) | (simp only [World.size_alloc]; omega)))⟩

set_option maxHeartbeats 2000000 in
theorem tu_1 (b c d e f g h i j k m0 m1 m2 m3 m4 m5 m6 m7 m8 m9 : Int) (h4 : has m6 4 = false) (h2 : has m6 2 = false) (h16 : has m6 16 = true) (hnx : newer m3 e = false) (hnu : newer m3 d = true)  (hs : m2 = f) (hq : ¬ m3 = e) (w : World) : Calls Try.prog 35 #[(Value.agg #[.int .i64 3, .int .i64 b, .int .u32 c, .int .u32 d, .int .u32 e, .int .u32 f, .int .i64 g, .int .i64 h, .int .u8 i, .int .i64 j, .int .i64 k]), (Value.agg #[.int .u16 m0, .int .u16 m1, .int .u32 m2, .int .u32 m3, .int .u8 m4, .int .u8 m5, .int .u8 m6, .int .u16 m7, .int .u16 m8, .int .u16 m9])] w (CPost w (othersv ⟨3, b, c, d, e, f, g, h, i, j, k⟩ ⟨m0, m1, m2, m3, m4, m5, m6, m7, m8, m9⟩)) := by
  have hr : othersv ⟨3, b, c, d, e, f, g, h, i, j, k⟩ ⟨m0, m1, m2, m3, m4, m5, m6, m7, m8, m9⟩ = (⟨3, b, c, m3, e, f, g, h, i, j, k⟩, []) := by simp only [othersv, tailv, openedv, h4, h2, h16, hnx, hnu]; simp [hs, hq]
  rw [hr]; clear hr
  have bhs : (m2 == f) = true := by simpa using hs
  have nhs : (m2 != f) = false := by simpa using hs
  clear hs
  have bhq : (m3 == e) = false := by simpa using hq
  have nhq : (m3 != e) = true := by simpa using hq
  clear hq
  go_enter Try.func35, Try.ntmps35
  go_wp2_with (first | (go_at_call 38; refine (has_calls _ _ _ _ _ _ _ _ _ _ _ _).mono ?_; rintro e w' ⟨rfl, rfl⟩) | (go_at_call 43; refine (newer_calls _ _ _).mono ?_; rintro e w' ⟨rfl, rfl⟩))
  refine bodyPost_ret (v := .tuple #[(Value.agg #[.int .i64 3, .int .i64 b, .int .u32 c, .int .u32 m3, .int .u32 e, .int .u32 f, .int .i64 g, .int .i64 h, .int .u8 i, .int .i64 j, .int .i64 k]), .slice none 0 0]) (by simp [results, Try.results35, go_sem]) rfl ⟨_, rfl, Segs.nil _ _, (by repeat (first | exact Below.refl _ _ | refine Below.drew ?_ | refine below_drewN ?_ _ | (refine Below.alloc ?_ ?hB _; (case hB => first | (simp; done) | (simp; omega)))))⟩

set_option maxHeartbeats 2000000 in
theorem tu_6 (a b c d e f g h i j k m0 m1 m2 m3 m4 m5 m6 m7 m8 m9 : Int) (h4 : has m6 4 = false) (h2 : has m6 2 = false) (h16 : has m6 16 = true) (hnx : newer m3 e = false) (hnu : newer m3 d = true) (h1 : has m6 1 = false) (hs : m2 = f) (h3 : ¬ a = 3) (hq : ¬ m3 = e) (w : World) : Calls Try.prog 35 #[(Value.agg #[.int .i64 a, .int .i64 b, .int .u32 c, .int .u32 d, .int .u32 e, .int .u32 f, .int .i64 g, .int .i64 h, .int .u8 i, .int .i64 j, .int .i64 k]), (Value.agg #[.int .u16 m0, .int .u16 m1, .int .u32 m2, .int .u32 m3, .int .u8 m4, .int .u8 m5, .int .u8 m6, .int .u16 m7, .int .u16 m8, .int .u16 m9])] w (CPost w (othersv ⟨a, b, c, d, e, f, g, h, i, j, k⟩ ⟨m0, m1, m2, m3, m4, m5, m6, m7, m8, m9⟩)) := by
  have hr : othersv ⟨a, b, c, d, e, f, g, h, i, j, k⟩ ⟨m0, m1, m2, m3, m4, m5, m6, m7, m8, m9⟩ = (⟨a, b, c, m3, e, f, g, h, i, j, k⟩, []) := by simp only [othersv, tailv, openedv, h4, h2, h16, hnx, hnu]; simp [hs, h3, hq, h1]
  rw [hr]; clear hr
  have bhs : (m2 == f) = true := by simpa using hs
  have nhs : (m2 != f) = false := by simpa using hs
  clear hs
  have bh3 : (a == 3) = false := by simpa using h3
  have nh3 : (a != 3) = true := by simpa using h3
  clear h3
  have bhq : (m3 == e) = false := by simpa using hq
  have nhq : (m3 != e) = true := by simpa using hq
  clear hq
  go_enter Try.func35, Try.ntmps35
  go_wp2_with (first | (go_at_call 38; refine (has_calls _ _ _ _ _ _ _ _ _ _ _ _).mono ?_; rintro e w' ⟨rfl, rfl⟩) | (go_at_call 43; refine (newer_calls _ _ _).mono ?_; rintro e w' ⟨rfl, rfl⟩))
  refine bodyPost_ret (v := .tuple #[(Value.agg #[.int .i64 a, .int .i64 b, .int .u32 c, .int .u32 m3, .int .u32 e, .int .u32 f, .int .i64 g, .int .i64 h, .int .u8 i, .int .i64 j, .int .i64 k]), .slice none 0 0]) (by simp [results, Try.results35, go_sem]) rfl ⟨_, rfl, Segs.nil _ _, (by repeat (first | exact Below.refl _ _ | refine Below.drew ?_ | refine below_drewN ?_ _ | (refine Below.alloc ?_ ?hB _; (case hB => first | (simp; done) | (simp; omega)))))⟩

set_option maxHeartbeats 2000000 in
theorem tu_7 (a b c d e f g h i j k m0 m1 m2 m3 m4 m5 m6 m7 m8 m9 : Int) (h4 : has m6 4 = false) (h2 : has m6 2 = false) (h16 : has m6 16 = true) (hnx : newer m3 e = false) (hnu : newer m3 d = true) (h1 : has m6 1 = true) (hs : m2 = f) (h3 : ¬ a = 3) (hq : ¬ m3 = e) (w : World) : Calls Try.prog 35 #[(Value.agg #[.int .i64 a, .int .i64 b, .int .u32 c, .int .u32 d, .int .u32 e, .int .u32 f, .int .i64 g, .int .i64 h, .int .u8 i, .int .i64 j, .int .i64 k]), (Value.agg #[.int .u16 m0, .int .u16 m1, .int .u32 m2, .int .u32 m3, .int .u8 m4, .int .u8 m5, .int .u8 m6, .int .u16 m7, .int .u16 m8, .int .u16 m9])] w (CPost w (othersv ⟨a, b, c, d, e, f, g, h, i, j, k⟩ ⟨m0, m1, m2, m3, m4, m5, m6, m7, m8, m9⟩)) := by
  have hr : othersv ⟨a, b, c, d, e, f, g, h, i, j, k⟩ ⟨m0, m1, m2, m3, m4, m5, m6, m7, m8, m9⟩ = finv ⟨a, b, c, m3, e, f, g, h, i, j, k⟩ := by simp only [othersv, tailv, openedv, h4, h2, h16, hnx, hnu]; simp [hs, h3, hq, h1]
  rw [hr]; clear hr
  have bhs : (m2 == f) = true := by simpa using hs
  have nhs : (m2 != f) = false := by simpa using hs
  clear hs
  have bh3 : (a == 3) = false := by simpa using h3
  have nh3 : (a != 3) = true := by simpa using h3
  clear h3
  have bhq : (m3 == e) = false := by simpa using hq
  have nhq : (m3 != e) = true := by simpa using hq
  clear hq
  go_enter Try.func35, Try.ntmps35
  go_wp2_with (first | (go_at_call 38; refine (has_calls _ _ _ _ _ _ _ _ _ _ _ _).mono ?_; rintro e w' ⟨rfl, rfl⟩) | (go_at_call 43; refine (newer_calls _ _ _).mono ?_; rintro e w' ⟨rfl, rfl⟩) | (go_at_call 46; refine (fin_calls _ _ _ _ _ _ _ _ _ _ _ _).mono ?_; rintro e w' ⟨v, rfl, hs, hb⟩; obtain ⟨hA, hAf⟩ := held (g := w.heap.size + 1 + 1) hb (by repeat (first | (refine heap_new ?_; (simp; done)) | refine heap_alloc ?_ _ | refine heap_drew ?_)); generalize hfr : finv _ = fr at hs ⊢; obtain ⟨⟨r0, r1, r2, r3, r4, r5, r6, r7, r8, r9, r10⟩, rl⟩ := fr; have Hfr := Lib.hid hfr; clear hfr; have Hs := Lib.hid hs; clear hs; have Hb := Lib.hid hb; clear hb; dsimp only [C.v]))
  rw [Hfr.out]
  refine bodyPost_ret (v := .tuple #[(Value.agg #[.int .i64 r0, .int .i64 r1, .int .u32 r2, .int .u32 r3, .int .u32 r4, .int .u32 r5, .int .i64 r6, .int .i64 r7, .int .u8 r8, .int .i64 r9, .int .i64 r10]), v]) (by simp [results, Try.results35, go_sem, hA]) rfl ⟨_, rfl, (Segs.base (Segs.set11 _ _ _ _ _ _ _ _ _ _ _ Hs.out (by first | omega | (simp; done) | (simp; omega) | (simp only [World.size_alloc]; omega))) (by first | omega | (simp; done) | (simp; omega) | (simp only [World.size_alloc]; omega))), (below_set11 _ _ _ _ _ _ _ _ _ _ _ (Below.trans (by repeat (first | exact Below.refl _ _ | refine Below.drew ?_ | refine below_drewN ?_ _ | (refine Below.alloc ?_ ?hB _; (case hB => first | (simp; done) | (simp; omega))))) (Hb.out.mono (by first | omega | (simp; done) | (simp; omega) | (simp only [World.size_alloc]; omega)))) (by first | omega | (simp; done) | (simp; omega) | (simp only [World.size_alloc]; omega)))⟩

set_option maxHeartbeats 2000000 in
theorem tu_4 (a b c d e f g h i j k m0 m1 m2 m3 m4 m5 m6 m7 m8 m9 : Int) (h4 : has m6 4 = false) (h2 : has m6 2 = false) (h16 : has m6 16 = true) (hnx : newer m3 e = false) (hnu : newer m3 d = true) (h1 : has m6 1 = false) (hs : m2 = f) (h3 : ¬ a = 3) (hq : m3 = e) (w : World) : Calls Try.prog 35 #[(Value.agg #[.int .i64 a, .int .i64 b, .int .u32 c, .int .u32 d, .int .u32 e, .int .u32 f, .int .i64 g, .int .i64 h, .int .u8 i, .int .i64 j, .int .i64 k]), (Value.agg #[.int .u16 m0, .int .u16 m1, .int .u32 m2, .int .u32 m3, .int .u8 m4, .int .u8 m5, .int .u8 m6, .int .u16 m7, .int .u16 m8, .int .u16 m9])] w (CPost w (othersv ⟨a, b, c, d, e, f, g, h, i, j, k⟩ ⟨m0, m1, m2, m3, m4, m5, m6, m7, m8, m9⟩)) := by
  have hr : othersv ⟨a, b, c, d, e, f, g, h, i, j, k⟩ ⟨m0, m1, m2, m3, m4, m5, m6, m7, m8, m9⟩ = (⟨heardv a, b, c, m3, e, f, g, h, i, j, k⟩, []) := by simp only [othersv, tailv, openedv, h4, h2, h16, hnx, hnu]; simp [hs, h3, hq, h1]
  rw [hr]; clear hr
  have bhs : (m2 == f) = true := by simpa using hs
  have nhs : (m2 != f) = false := by simpa using hs
  clear hs
  have bh3 : (a == 3) = false := by simpa using h3
  have nh3 : (a != 3) = true := by simpa using h3
  clear h3
  have bhq : (m3 == e) = true := by simpa using hq
  have nhq : (m3 != e) = false := by simpa using hq
  clear hq
  go_enter Try.func35, Try.ntmps35
  go_wp2_with (first | (go_at_call 38; refine (has_calls _ _ _ _ _ _ _ _ _ _ _ _).mono ?_; rintro e w' ⟨rfl, rfl⟩) | (go_at_call 43; refine (newer_calls _ _ _).mono ?_; rintro e w' ⟨rfl, rfl⟩) | (go_at_call 45; refine (heard_calls _ _).mono ?_; rintro e w' ⟨rfl, rfl⟩))
  refine bodyPost_ret (v := .tuple #[(Value.agg #[.int .i64 (heardv a), .int .i64 b, .int .u32 c, .int .u32 m3, .int .u32 e, .int .u32 f, .int .i64 g, .int .i64 h, .int .u8 i, .int .i64 j, .int .i64 k]), .slice none 0 0]) (by simp [results, Try.results35, go_sem]) rfl ⟨_, rfl, Segs.nil _ _, (by repeat (first | exact Below.refl _ _ | refine Below.drew ?_ | refine below_drewN ?_ _ | (refine Below.alloc ?_ ?hB _; (case hB => first | (simp; done) | (simp; omega)))))⟩

set_option maxHeartbeats 2000000 in
theorem tu_5 (a b c d e f g h i j k m0 m1 m2 m3 m4 m5 m6 m7 m8 m9 : Int) (h4 : has m6 4 = false) (h2 : has m6 2 = false) (h16 : has m6 16 = true) (hnx : newer m3 e = false) (hnu : newer m3 d = true) (h1 : has m6 1 = true) (hs : m2 = f) (h3 : ¬ a = 3) (hq : m3 = e) (w : World) : Calls Try.prog 35 #[(Value.agg #[.int .i64 a, .int .i64 b, .int .u32 c, .int .u32 d, .int .u32 e, .int .u32 f, .int .i64 g, .int .i64 h, .int .u8 i, .int .i64 j, .int .i64 k]), (Value.agg #[.int .u16 m0, .int .u16 m1, .int .u32 m2, .int .u32 m3, .int .u8 m4, .int .u8 m5, .int .u8 m6, .int .u16 m7, .int .u16 m8, .int .u16 m9])] w (CPost w (othersv ⟨a, b, c, d, e, f, g, h, i, j, k⟩ ⟨m0, m1, m2, m3, m4, m5, m6, m7, m8, m9⟩)) := by
  have hr : othersv ⟨a, b, c, d, e, f, g, h, i, j, k⟩ ⟨m0, m1, m2, m3, m4, m5, m6, m7, m8, m9⟩ = finv ⟨heardv a, b, c, m3, e, f, g, h, i, j, k⟩ := by simp only [othersv, tailv, openedv, h4, h2, h16, hnx, hnu]; simp [hs, h3, hq, h1]
  rw [hr]; clear hr
  have bhs : (m2 == f) = true := by simpa using hs
  have nhs : (m2 != f) = false := by simpa using hs
  clear hs
  have bh3 : (a == 3) = false := by simpa using h3
  have nh3 : (a != 3) = true := by simpa using h3
  clear h3
  have bhq : (m3 == e) = true := by simpa using hq
  have nhq : (m3 != e) = false := by simpa using hq
  clear hq
  go_enter Try.func35, Try.ntmps35
  go_wp2_with (first | (go_at_call 38; refine (has_calls _ _ _ _ _ _ _ _ _ _ _ _).mono ?_; rintro e w' ⟨rfl, rfl⟩) | (go_at_call 43; refine (newer_calls _ _ _).mono ?_; rintro e w' ⟨rfl, rfl⟩) | (go_at_call 45; refine (heard_calls _ _).mono ?_; rintro e w' ⟨rfl, rfl⟩) | (go_at_call 46; refine (fin_calls _ _ _ _ _ _ _ _ _ _ _ _).mono ?_; rintro e w' ⟨v, rfl, hs, hb⟩; obtain ⟨hA, hAf⟩ := held (g := w.heap.size + 1 + 1) hb (by repeat (first | (refine heap_new ?_; (simp; done)) | refine heap_alloc ?_ _ | refine heap_drew ?_)); generalize hfr : finv _ = fr at hs ⊢; obtain ⟨⟨r0, r1, r2, r3, r4, r5, r6, r7, r8, r9, r10⟩, rl⟩ := fr; have Hfr := Lib.hid hfr; clear hfr; have Hs := Lib.hid hs; clear hs; have Hb := Lib.hid hb; clear hb; dsimp only [C.v]))
  rw [Hfr.out]
  refine bodyPost_ret (v := .tuple #[(Value.agg #[.int .i64 r0, .int .i64 r1, .int .u32 r2, .int .u32 r3, .int .u32 r4, .int .u32 r5, .int .i64 r6, .int .i64 r7, .int .u8 r8, .int .i64 r9, .int .i64 r10]), v]) (by simp [results, Try.results35, go_sem, hA]) rfl ⟨_, rfl, (Segs.base (Segs.set11 _ _ _ _ _ _ _ _ _ _ _ Hs.out (by first | omega | (simp; done) | (simp; omega) | (simp only [World.size_alloc]; omega))) (by first | omega | (simp; done) | (simp; omega) | (simp only [World.size_alloc]; omega))), (below_set11 _ _ _ _ _ _ _ _ _ _ _ (Below.trans (by repeat (first | exact Below.refl _ _ | refine Below.drew ?_ | refine below_drewN ?_ _ | (refine Below.alloc ?_ ?hB _; (case hB => first | (simp; done) | (simp; omega))))) (Hb.out.mono (by first | omega | (simp; done) | (simp; omega) | (simp only [World.size_alloc]; omega)))) (by first | omega | (simp; done) | (simp; omega) | (simp only [World.size_alloc]; omega)))⟩

set_option maxHeartbeats 2000000 in
theorem tu_2y (b c d e f h i j k m0 m1 m2 m3 m4 m5 m6 m7 m8 m9 : Int) (h4 : has m6 4 = false) (h2 : has m6 2 = false) (h16 : has m6 16 = true) (hnx : newer m3 e = false) (hnu : newer m3 d = true) (h1 : has m6 1 = false) (hs : m2 = f) (hq : m3 = e) (w : World) : Calls Try.prog 35 #[(Value.agg #[.int .i64 3, .int .i64 b, .int .u32 c, .int .u32 d, .int .u32 e, .int .u32 f, .int .i64 2, .int .i64 h, .int .u8 i, .int .i64 j, .int .i64 k]), (Value.agg #[.int .u16 m0, .int .u16 m1, .int .u32 m2, .int .u32 m3, .int .u8 m4, .int .u8 m5, .int .u8 m6, .int .u16 m7, .int .u16 m8, .int .u16 m9])] w (CPost w (othersv ⟨3, b, c, d, e, f, 2, h, i, j, k⟩ ⟨m0, m1, m2, m3, m4, m5, m6, m7, m8, m9⟩)) := by
  have hr : othersv ⟨3, b, c, d, e, f, 2, h, i, j, k⟩ ⟨m0, m1, m2, m3, m4, m5, m6, m7, m8, m9⟩ = (⟨4, b, c, m3, e, f, 2, h, i, startv m5, k⟩, []) := by simp only [othersv, tailv, openedv, h4, h2, h16, hnx, hnu]; simp [hs, hq, h1]
  rw [hr]; clear hr
  have bhs : (m2 == f) = true := by simpa using hs
  have nhs : (m2 != f) = false := by simpa using hs
  clear hs
  have bhq : (m3 == e) = true := by simpa using hq
  have nhq : (m3 != e) = false := by simpa using hq
  clear hq
  have hh4 : heardv 4 = 4 := rfl
  go_enter Try.func35, Try.ntmps35
  go_wp2_with (first | (go_at_call 38; refine (has_calls _ _ _ _ _ _ _ _ _ _ _ _).mono ?_; rintro e w' ⟨rfl, rfl⟩) | (go_at_call 43; refine (newer_calls _ _ _).mono ?_; rintro e w' ⟨rfl, rfl⟩) | (go_at_call 45; refine (heard_calls _ _).mono ?_; rintro e w' ⟨rfl, rfl⟩) | (go_at_call 44; refine (opened_yes _ _ _ _ _ _ _ _ _ _ _ _ _ _ _ _ _ _ _ _ _).mono ?_; rintro e w' ⟨rfl, rfl⟩))
  refine bodyPost_ret (v := .tuple #[(Value.agg #[.int .i64 4, .int .i64 b, .int .u32 c, .int .u32 m3, .int .u32 e, .int .u32 f, .int .i64 2, .int .i64 h, .int .u8 i, .int .i64 (startv m5), .int .i64 k]), .slice none 0 0]) (by simp [results, Try.results35, go_sem]) rfl ⟨_, rfl, Segs.nil _ _, (by repeat (first | exact Below.refl _ _ | refine Below.drew ?_ | refine below_drewN ?_ _ | (refine Below.alloc ?_ ?hB _; (case hB => first | (simp; done) | (simp; omega)))))⟩

set_option maxHeartbeats 2000000 in
theorem tu_2n (b c d e f g h i j k m0 m1 m2 m3 m4 m5 m6 m7 m8 m9 : Int) (h4 : has m6 4 = false) (h2 : has m6 2 = false) (h16 : has m6 16 = true) (hnx : newer m3 e = false) (hnu : newer m3 d = true) (hgm : ¬ g = 2) (h1 : has m6 1 = false) (hs : m2 = f) (hq : m3 = e) (w : World) : Calls Try.prog 35 #[(Value.agg #[.int .i64 3, .int .i64 b, .int .u32 c, .int .u32 d, .int .u32 e, .int .u32 f, .int .i64 g, .int .i64 h, .int .u8 i, .int .i64 j, .int .i64 k]), (Value.agg #[.int .u16 m0, .int .u16 m1, .int .u32 m2, .int .u32 m3, .int .u8 m4, .int .u8 m5, .int .u8 m6, .int .u16 m7, .int .u16 m8, .int .u16 m9])] w (CPost w (othersv ⟨3, b, c, d, e, f, g, h, i, j, k⟩ ⟨m0, m1, m2, m3, m4, m5, m6, m7, m8, m9⟩)) := by
  have hr : othersv ⟨3, b, c, d, e, f, g, h, i, j, k⟩ ⟨m0, m1, m2, m3, m4, m5, m6, m7, m8, m9⟩ = (⟨4, b, c, m3, e, f, g, h, i, j, k⟩, []) := by simp only [othersv, tailv, openedv, h4, h2, h16, hnx, hnu]; simp [hs, hq, h1, hgm]
  rw [hr]; clear hr
  have bhs : (m2 == f) = true := by simpa using hs
  have nhs : (m2 != f) = false := by simpa using hs
  clear hs
  have bhq : (m3 == e) = true := by simpa using hq
  have nhq : (m3 != e) = false := by simpa using hq
  clear hq
  have hh4 : heardv 4 = 4 := rfl
  go_enter Try.func35, Try.ntmps35
  go_wp2_with (first | (go_at_call 38; refine (has_calls _ _ _ _ _ _ _ _ _ _ _ _).mono ?_; rintro e w' ⟨rfl, rfl⟩) | (go_at_call 43; refine (newer_calls _ _ _).mono ?_; rintro e w' ⟨rfl, rfl⟩) | (go_at_call 45; refine (heard_calls _ _).mono ?_; rintro e w' ⟨rfl, rfl⟩) | (go_at_call 44; refine (opened_no _ _ _ _ _ _ _ _ _ _ _ _ _ _ _ _ _ _ _ _ _ (by assumption) _).mono ?_; rintro e w' ⟨rfl, rfl⟩))
  refine bodyPost_ret (v := .tuple #[(Value.agg #[.int .i64 4, .int .i64 b, .int .u32 c, .int .u32 m3, .int .u32 e, .int .u32 f, .int .i64 g, .int .i64 h, .int .u8 i, .int .i64 j, .int .i64 k]), .slice none 0 0]) (by simp [results, Try.results35, go_sem]) rfl ⟨_, rfl, Segs.nil _ _, (by repeat (first | exact Below.refl _ _ | refine Below.drew ?_ | refine below_drewN ?_ _ | (refine Below.alloc ?_ ?hB _; (case hB => first | (simp; done) | (simp; omega)))))⟩

set_option maxHeartbeats 2000000 in
theorem tu_3y (b c d e f h i j k m0 m1 m2 m3 m4 m5 m6 m7 m8 m9 : Int) (h4 : has m6 4 = false) (h2 : has m6 2 = false) (h16 : has m6 16 = true) (hnx : newer m3 e = false) (hnu : newer m3 d = true) (h1 : has m6 1 = true) (hs : m2 = f) (hq : m3 = e) (w : World) : Calls Try.prog 35 #[(Value.agg #[.int .i64 3, .int .i64 b, .int .u32 c, .int .u32 d, .int .u32 e, .int .u32 f, .int .i64 2, .int .i64 h, .int .u8 i, .int .i64 j, .int .i64 k]), (Value.agg #[.int .u16 m0, .int .u16 m1, .int .u32 m2, .int .u32 m3, .int .u8 m4, .int .u8 m5, .int .u8 m6, .int .u16 m7, .int .u16 m8, .int .u16 m9])] w (CPost w (othersv ⟨3, b, c, d, e, f, 2, h, i, j, k⟩ ⟨m0, m1, m2, m3, m4, m5, m6, m7, m8, m9⟩)) := by
  have hr : othersv ⟨3, b, c, d, e, f, 2, h, i, j, k⟩ ⟨m0, m1, m2, m3, m4, m5, m6, m7, m8, m9⟩ = finv ⟨4, b, c, m3, e, f, 2, h, i, startv m5, k⟩ := by simp only [othersv, tailv, openedv, h4, h2, h16, hnx, hnu]; simp [hs, hq, h1]
  rw [hr]; clear hr
  have bhs : (m2 == f) = true := by simpa using hs
  have nhs : (m2 != f) = false := by simpa using hs
  clear hs
  have bhq : (m3 == e) = true := by simpa using hq
  have nhq : (m3 != e) = false := by simpa using hq
  clear hq
  have hh4 : heardv 4 = 4 := rfl
  go_enter Try.func35, Try.ntmps35
  go_wp2_with (first | (go_at_call 38; refine (has_calls _ _ _ _ _ _ _ _ _ _ _ _).mono ?_; rintro e w' ⟨rfl, rfl⟩) | (go_at_call 43; refine (newer_calls _ _ _).mono ?_; rintro e w' ⟨rfl, rfl⟩) | (go_at_call 45; refine (heard_calls _ _).mono ?_; rintro e w' ⟨rfl, rfl⟩) | (go_at_call 44; refine (opened_yes _ _ _ _ _ _ _ _ _ _ _ _ _ _ _ _ _ _ _ _ _).mono ?_; rintro e w' ⟨rfl, rfl⟩) | (go_at_call 46; refine (fin_calls _ _ _ _ _ _ _ _ _ _ _ _).mono ?_; rintro e w' ⟨v, rfl, hs, hb⟩; obtain ⟨hA, hAf⟩ := held (g := w.heap.size + 1 + 1) hb (by repeat (first | (refine heap_new ?_; (simp; done)) | refine heap_alloc ?_ _ | refine heap_drew ?_)); generalize hfr : finv _ = fr at hs ⊢; obtain ⟨⟨r0, r1, r2, r3, r4, r5, r6, r7, r8, r9, r10⟩, rl⟩ := fr; have Hfr := Lib.hid hfr; clear hfr; have Hs := Lib.hid hs; clear hs; have Hb := Lib.hid hb; clear hb; dsimp only [C.v]))
  rw [Hfr.out]
  refine bodyPost_ret (v := .tuple #[(Value.agg #[.int .i64 r0, .int .i64 r1, .int .u32 r2, .int .u32 r3, .int .u32 r4, .int .u32 r5, .int .i64 r6, .int .i64 r7, .int .u8 r8, .int .i64 r9, .int .i64 r10]), v]) (by simp [results, Try.results35, go_sem, hA]) rfl ⟨_, rfl, (Segs.base (Segs.set11 _ _ _ _ _ _ _ _ _ _ _ Hs.out (by first | omega | (simp; done) | (simp; omega) | (simp only [World.size_alloc]; omega))) (by first | omega | (simp; done) | (simp; omega) | (simp only [World.size_alloc]; omega))), (below_set11 _ _ _ _ _ _ _ _ _ _ _ (Below.trans (by repeat (first | exact Below.refl _ _ | refine Below.drew ?_ | refine below_drewN ?_ _ | (refine Below.alloc ?_ ?hB _; (case hB => first | (simp; done) | (simp; omega))))) (Hb.out.mono (by first | omega | (simp; done) | (simp; omega) | (simp only [World.size_alloc]; omega)))) (by first | omega | (simp; done) | (simp; omega) | (simp only [World.size_alloc]; omega)))⟩

set_option maxHeartbeats 2000000 in
theorem tu_3n (b c d e f g h i j k m0 m1 m2 m3 m4 m5 m6 m7 m8 m9 : Int) (h4 : has m6 4 = false) (h2 : has m6 2 = false) (h16 : has m6 16 = true) (hnx : newer m3 e = false) (hnu : newer m3 d = true) (hgm : ¬ g = 2) (h1 : has m6 1 = true) (hs : m2 = f) (hq : m3 = e) (w : World) : Calls Try.prog 35 #[(Value.agg #[.int .i64 3, .int .i64 b, .int .u32 c, .int .u32 d, .int .u32 e, .int .u32 f, .int .i64 g, .int .i64 h, .int .u8 i, .int .i64 j, .int .i64 k]), (Value.agg #[.int .u16 m0, .int .u16 m1, .int .u32 m2, .int .u32 m3, .int .u8 m4, .int .u8 m5, .int .u8 m6, .int .u16 m7, .int .u16 m8, .int .u16 m9])] w (CPost w (othersv ⟨3, b, c, d, e, f, g, h, i, j, k⟩ ⟨m0, m1, m2, m3, m4, m5, m6, m7, m8, m9⟩)) := by
  have hr : othersv ⟨3, b, c, d, e, f, g, h, i, j, k⟩ ⟨m0, m1, m2, m3, m4, m5, m6, m7, m8, m9⟩ = finv ⟨4, b, c, m3, e, f, g, h, i, j, k⟩ := by simp only [othersv, tailv, openedv, h4, h2, h16, hnx, hnu]; simp [hs, hq, h1, hgm]
  rw [hr]; clear hr
  have bhs : (m2 == f) = true := by simpa using hs
  have nhs : (m2 != f) = false := by simpa using hs
  clear hs
  have bhq : (m3 == e) = true := by simpa using hq
  have nhq : (m3 != e) = false := by simpa using hq
  clear hq
  have hh4 : heardv 4 = 4 := rfl
  go_enter Try.func35, Try.ntmps35
  go_wp2_with (first | (go_at_call 38; refine (has_calls _ _ _ _ _ _ _ _ _ _ _ _).mono ?_; rintro e w' ⟨rfl, rfl⟩) | (go_at_call 43; refine (newer_calls _ _ _).mono ?_; rintro e w' ⟨rfl, rfl⟩) | (go_at_call 45; refine (heard_calls _ _).mono ?_; rintro e w' ⟨rfl, rfl⟩) | (go_at_call 44; refine (opened_no _ _ _ _ _ _ _ _ _ _ _ _ _ _ _ _ _ _ _ _ _ (by assumption) _).mono ?_; rintro e w' ⟨rfl, rfl⟩) | (go_at_call 46; refine (fin_calls _ _ _ _ _ _ _ _ _ _ _ _).mono ?_; rintro e w' ⟨v, rfl, hs, hb⟩; obtain ⟨hA, hAf⟩ := held (g := w.heap.size + 1 + 1) hb (by repeat (first | (refine heap_new ?_; (simp; done)) | refine heap_alloc ?_ _ | refine heap_drew ?_)); generalize hfr : finv _ = fr at hs ⊢; obtain ⟨⟨r0, r1, r2, r3, r4, r5, r6, r7, r8, r9, r10⟩, rl⟩ := fr; have Hfr := Lib.hid hfr; clear hfr; have Hs := Lib.hid hs; clear hs; have Hb := Lib.hid hb; clear hb; dsimp only [C.v]))
  rw [Hfr.out]
  refine bodyPost_ret (v := .tuple #[(Value.agg #[.int .i64 r0, .int .i64 r1, .int .u32 r2, .int .u32 r3, .int .u32 r4, .int .u32 r5, .int .i64 r6, .int .i64 r7, .int .u8 r8, .int .i64 r9, .int .i64 r10]), v]) (by simp [results, Try.results35, go_sem, hA]) rfl ⟨_, rfl, (Segs.base (Segs.set11 _ _ _ _ _ _ _ _ _ _ _ Hs.out (by first | omega | (simp; done) | (simp; omega) | (simp only [World.size_alloc]; omega))) (by first | omega | (simp; done) | (simp; omega) | (simp only [World.size_alloc]; omega))), (below_set11 _ _ _ _ _ _ _ _ _ _ _ (Below.trans (by repeat (first | exact Below.refl _ _ | refine Below.drew ?_ | refine below_drewN ?_ _ | (refine Below.alloc ?_ ?hB _; (case hB => first | (simp; done) | (simp; omega))))) (Hb.out.mono (by first | omega | (simp; done) | (simp; omega) | (simp only [World.size_alloc]; omega)))) (by first | omega | (simp; done) | (simp; omega) | (simp only [World.size_alloc]; omega)))⟩

end Go.Proofs.Ytbklomnlhpbhnaa
