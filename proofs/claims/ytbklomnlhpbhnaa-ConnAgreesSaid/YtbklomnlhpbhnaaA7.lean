import Derived.Test.YtbklomnlhpbhnaaA6
import Derived.Lib.Hide
import Derived.LoopN
import Derived.BigRegion
namespace Go.Proofs.Ytbklomnlhpbhnaa
open Go.RowKit

/-- A question taken. -/
def listeningv (x : C) (m : H) (code : Int) : C × List H :=
  if has m.flags 4 = true then (x, [])
  else if has m.flags 16 = true then (x, [hd m.ack 0 4 0])
  else if has m.flags 2 = true then (⟨3, x.want, x.iss, x.iss, (x.iss + 1) % 4294967296, (m.seq + 1) % 4294967296, (replyv m.ace code x.want).2, code, (replyv m.ace code x.want).1, x.start, 0⟩, [hd x.iss ((m.seq + 1) % 4294967296) 18 (replyv m.ace code x.want).1])
  else (x, [])
set_option maxHeartbeats 1000000 in
theorem listening_rst (a b c d e f g h i j k m0 m1 m2 m3 m4 m5 m6 m7 m8 m9 u : Int) (h4 : has m6 4 = true) (w : World) : Calls Try.prog 33 #[(Value.agg #[.int .i64 a, .int .i64 b, .int .u32 c, .int .u32 d, .int .u32 e, .int .u32 f, .int .i64 g, .int .i64 h, .int .u8 i, .int .i64 j, .int .i64 k]), (Value.agg #[.int .u16 m0, .int .u16 m1, .int .u32 m2, .int .u32 m3, .int .u8 m4, .int .u8 m5, .int .u8 m6, .int .u16 m7, .int .u16 m8, .int .u16 m9]), .int .i64 u] w (CPost w (listeningv ⟨a, b, c, d, e, f, g, h, i, j, k⟩ ⟨m0, m1, m2, m3, m4, m5, m6, m7, m8, m9⟩ u)) := by
  have hr : listeningv ⟨a, b, c, d, e, f, g, h, i, j, k⟩ ⟨m0, m1, m2, m3, m4, m5, m6, m7, m8, m9⟩ u = (⟨a, b, c, d, e, f, g, h, i, j, k⟩, []) := by simp [listeningv, *]
  rw [hr]; clear hr
  go_enter Try.func33, Try.ntmps33
  go_wp2_with (first | (go_at_call 38; refine (has_calls _ _ _ _ _ _ _ _ _ _ _ _).mono ?_; rintro e w' ⟨rfl, rfl⟩))
  refine bodyPost_ret (v := .tuple #[(Value.agg #[.int .i64 a, .int .i64 b, .int .u32 c, .int .u32 d, .int .u32 e, .int .u32 f, .int .i64 g, .int .i64 h, .int .u8 i, .int .i64 j, .int .i64 k]), .slice none 0 0]) (by simp [results, Try.results33, go_sem]) rfl ⟨_, rfl, Segs.nil _ _, (by repeat (first | exact Below.refl _ _ | refine Below.drew ?_ | refine below_drewN ?_ _ | refine Below.alloc ?_ (by first | (simp; done) | (simp; omega)) _))⟩

set_option maxHeartbeats 1000000 in
theorem listening_ack (a b c d e f g h i j k m0 m1 m2 m3 m4 m5 m6 m7 m8 m9 u : Int) (h4 : has m6 4 = false) (h16 : has m6 16 = true) (w : World) : Calls Try.prog 33 #[(Value.agg #[.int .i64 a, .int .i64 b, .int .u32 c, .int .u32 d, .int .u32 e, .int .u32 f, .int .i64 g, .int .i64 h, .int .u8 i, .int .i64 j, .int .i64 k]), (Value.agg #[.int .u16 m0, .int .u16 m1, .int .u32 m2, .int .u32 m3, .int .u8 m4, .int .u8 m5, .int .u8 m6, .int .u16 m7, .int .u16 m8, .int .u16 m9]), .int .i64 u] w (CPost w (listeningv ⟨a, b, c, d, e, f, g, h, i, j, k⟩ ⟨m0, m1, m2, m3, m4, m5, m6, m7, m8, m9⟩ u)) := by
  have hr : listeningv ⟨a, b, c, d, e, f, g, h, i, j, k⟩ ⟨m0, m1, m2, m3, m4, m5, m6, m7, m8, m9⟩ u = (⟨a, b, c, d, e, f, g, h, i, j, k⟩, [(hd m3 0 4 0)]) := by simp [listeningv, *]
  rw [hr]; clear hr
  go_enter Try.func33, Try.ntmps33
  go_wp2_with (first | (go_at_call 38; refine (has_calls _ _ _ _ _ _ _ _ _ _ _ _).mono ?_; rintro e w' ⟨rfl, rfl⟩))
  go_region_held3 (fun W => W.cell? ⟨w.heap.size, 0, none⟩ = some (.int .i64 a) ∧ W.cell? ⟨w.heap.size, 1, none⟩ = some (.int .i64 b) ∧ W.cell? ⟨w.heap.size, 2, none⟩ = some (.int .u32 c) ∧ W.cell? ⟨w.heap.size, 3, none⟩ = some (.int .u32 d) ∧ W.cell? ⟨w.heap.size, 4, none⟩ = some (.int .u32 e) ∧ W.cell? ⟨w.heap.size, 5, none⟩ = some (.int .u32 f) ∧ W.cell? ⟨w.heap.size, 6, none⟩ = some (.int .i64 g) ∧ W.cell? ⟨w.heap.size, 7, none⟩ = some (.int .i64 h) ∧ W.cell? ⟨w.heap.size, 8, none⟩ = some (.int .u8 i) ∧ W.cell? ⟨w.heap.size, 9, none⟩ = some (.int .i64 j) ∧ W.cell? ⟨w.heap.size, 10, none⟩ = some (.int .i64 k) ∧ W.cell? ⟨w.heap.size + 1, 0, none⟩ = some (.int .u16 m0) ∧ W.cell? ⟨w.heap.size + 1, 1, none⟩ = some (.int .u16 m1) ∧ W.cell? ⟨w.heap.size + 1, 2, none⟩ = some (.int .u32 m2) ∧ W.cell? ⟨w.heap.size + 1, 3, none⟩ = some (.int .u32 m3) ∧ W.cell? ⟨w.heap.size + 1, 4, none⟩ = some (.int .u8 m4) ∧ W.cell? ⟨w.heap.size + 1, 5, none⟩ = some (.int .u8 m5) ∧ W.cell? ⟨w.heap.size + 1, 6, none⟩ = some (.int .u8 m6) ∧ W.cell? ⟨w.heap.size + 1, 7, none⟩ = some (.int .u16 m7) ∧ W.cell? ⟨w.heap.size + 1, 8, none⟩ = some (.int .u16 m8) ∧ W.cell? ⟨w.heap.size + 1, 9, none⟩ = some (.int .u16 m9)) (((repeat' apply And.intro); all_goals (go_simp; done))) (first | (go_at_call 39; refine (refuse_calls _ _).mono ?_; rintro e w' ⟨rfl, rfl⟩) | (go_at_call 26; refine (say_calls _ _ _ _).mono ?_; rintro e w' ⟨rfl, rfl⟩))
  go_wp2
  refine bodyPost_ret (v := .tuple #[(Value.agg #[.int .i64 a, .int .i64 b, .int .u32 c, .int .u32 d, .int .u32 e, .int .u32 f, .int .i64 g, .int .i64 h, .int .u8 i, .int .i64 j, .int .i64 k]), .slice (some ⟨w.heap.size + 1 + 1 + 1 + 1 + 1 + 1, 0, none⟩) 1 1]) (by simp [results, Try.results33, go_sem]) rfl ⟨_, rfl, Segs.one (hd m3 0 4 0) (by first | (simp; done) | (simp; omega) | omega) (by repeat (first | exact heap_new (by simp) | refine heap_alloc ?_ _ | refine heap_drew ?_)), (by repeat (first | exact Below.refl _ _ | refine Below.drew ?_ | refine below_drewN ?_ _ | refine Below.alloc ?_ (by first | (simp; done) | (simp; omega)) _))⟩

set_option maxHeartbeats 1000000 in
theorem listening_none (a b c d e f g h i j k m0 m1 m2 m3 m4 m5 m6 m7 m8 m9 u : Int) (h4 : has m6 4 = false) (h16 : has m6 16 = false) (h2 : has m6 2 = false) (w : World) : Calls Try.prog 33 #[(Value.agg #[.int .i64 a, .int .i64 b, .int .u32 c, .int .u32 d, .int .u32 e, .int .u32 f, .int .i64 g, .int .i64 h, .int .u8 i, .int .i64 j, .int .i64 k]), (Value.agg #[.int .u16 m0, .int .u16 m1, .int .u32 m2, .int .u32 m3, .int .u8 m4, .int .u8 m5, .int .u8 m6, .int .u16 m7, .int .u16 m8, .int .u16 m9]), .int .i64 u] w (CPost w (listeningv ⟨a, b, c, d, e, f, g, h, i, j, k⟩ ⟨m0, m1, m2, m3, m4, m5, m6, m7, m8, m9⟩ u)) := by
  have hr : listeningv ⟨a, b, c, d, e, f, g, h, i, j, k⟩ ⟨m0, m1, m2, m3, m4, m5, m6, m7, m8, m9⟩ u = (⟨a, b, c, d, e, f, g, h, i, j, k⟩, []) := by simp [listeningv, *]
  rw [hr]; clear hr
  go_enter Try.func33, Try.ntmps33
  go_wp2_with (first | (go_at_call 38; refine (has_calls _ _ _ _ _ _ _ _ _ _ _ _).mono ?_; rintro e w' ⟨rfl, rfl⟩))
  refine bodyPost_ret (v := .tuple #[(Value.agg #[.int .i64 a, .int .i64 b, .int .u32 c, .int .u32 d, .int .u32 e, .int .u32 f, .int .i64 g, .int .i64 h, .int .u8 i, .int .i64 j, .int .i64 k]), .slice none 0 0]) (by simp [results, Try.results33, go_sem]) rfl ⟨_, rfl, Segs.nil _ _, (by repeat (first | exact Below.refl _ _ | refine Below.drew ?_ | refine below_drewN ?_ _ | refine Below.alloc ?_ (by first | (simp; done) | (simp; omega)) _))⟩

set_option maxHeartbeats 1000000 in
theorem listening_syn_no (a b c d e f g h i j k m0 m1 m2 m3 m4 m5 m6 m7 m8 m9 u : Int) (h4 : has m6 4 = false) (h16 : has m6 16 = false) (h2 : has m6 2 = true) (hr : ¬ (m5 = 7 ∧ 2 ≤ b)) (w : World) : Calls Try.prog 33 #[(Value.agg #[.int .i64 a, .int .i64 b, .int .u32 c, .int .u32 d, .int .u32 e, .int .u32 f, .int .i64 g, .int .i64 h, .int .u8 i, .int .i64 j, .int .i64 k]), (Value.agg #[.int .u16 m0, .int .u16 m1, .int .u32 m2, .int .u32 m3, .int .u8 m4, .int .u8 m5, .int .u8 m6, .int .u16 m7, .int .u16 m8, .int .u16 m9]), .int .i64 u] w (CPost w (listeningv ⟨a, b, c, d, e, f, g, h, i, j, k⟩ ⟨m0, m1, m2, m3, m4, m5, m6, m7, m8, m9⟩ u)) := by
  have hr : listeningv ⟨a, b, c, d, e, f, g, h, i, j, k⟩ ⟨m0, m1, m2, m3, m4, m5, m6, m7, m8, m9⟩ u = (⟨3, b, c, c, (c + 1) % 4294967296, (m2 + 1) % 4294967296, (replyv m5 u b).2, u, (replyv m5 u b).1, j, 0⟩, [(hd c ((m2 + 1) % 4294967296) 18 ((replyv m5 u b).1))]) := by simp [listeningv, h4, h16, h2]
  rw [hr]; clear hr
  go_enter Try.func33, Try.ntmps33
  go_wp2_with (first | (go_at_call 38; refine (has_calls _ _ _ _ _ _ _ _ _ _ _ _).mono ?_; rintro e w' ⟨rfl, rfl⟩))
  go_region
  go_wp2_with (first | (go_at_call 40; refine (Reply_no _ _ _ (by assumption) _).mono ?_; rintro e w' ⟨rfl, rfl⟩))
  go_region_held3 (fun W => W.cell? ⟨w.heap.size, 0, none⟩ = some (.int .i64 3) ∧ W.cell? ⟨w.heap.size, 1, none⟩ = some (.int .i64 b) ∧ W.cell? ⟨w.heap.size, 2, none⟩ = some (.int .u32 c) ∧ W.cell? ⟨w.heap.size, 3, none⟩ = some (.int .u32 c) ∧ W.cell? ⟨w.heap.size, 4, none⟩ = some (.int .u32 ((c + 1) % 4294967296)) ∧ W.cell? ⟨w.heap.size, 5, none⟩ = some (.int .u32 ((m2 + 1) % 4294967296)) ∧ W.cell? ⟨w.heap.size, 6, none⟩ = some (.int .i64 ((replyv m5 u b).2)) ∧ W.cell? ⟨w.heap.size, 7, none⟩ = some (.int .i64 u) ∧ W.cell? ⟨w.heap.size, 8, none⟩ = some (.int .u8 ((replyv m5 u b).1)) ∧ W.cell? ⟨w.heap.size, 9, none⟩ = some (.int .i64 j) ∧ W.cell? ⟨w.heap.size, 10, none⟩ = some (.int .i64 0)) (((repeat' apply And.intro); all_goals (go_simp; done))) (first | (go_at_call 24; refine (answer_calls _ _ _ _ _ _ _ _ _ _ _ _).mono ?_; rintro e w' ⟨rfl, rfl⟩) | (go_at_call 26; refine (say_calls _ _ _ _).mono ?_; rintro e w' ⟨rfl, rfl⟩))
  go_wp2
  refine bodyPost_ret (v := .tuple #[(Value.agg #[.int .i64 3, .int .i64 b, .int .u32 c, .int .u32 c, .int .u32 ((c + 1) % 4294967296), .int .u32 ((m2 + 1) % 4294967296), .int .i64 ((replyv m5 u b).2), .int .i64 u, .int .u8 ((replyv m5 u b).1), .int .i64 j, .int .i64 0]), .slice (some ⟨w.heap.size + 1 + 1 + 1 + 1 + 1 + 1 + 1 + 1, 0, none⟩) 1 1]) (by simp [results, Try.results33, go_sem]) rfl ⟨_, rfl, Segs.one (hd c ((m2 + 1) % 4294967296) 18 ((replyv m5 u b).1)) (by first | (simp; done) | (simp; omega) | omega) (by repeat (first | exact heap_new (by simp) | refine heap_alloc ?_ _ | refine heap_drew ?_)), (by repeat (first | exact Below.refl _ _ | refine Below.drew ?_ | refine below_drewN ?_ _ | refine Below.alloc ?_ (by first | (simp; done) | (simp; omega)) _))⟩

set_option maxHeartbeats 1000000 in
theorem listening_syn_yes (a b c d e f g h i j k m0 m1 m2 m3 m4 m5 m6 m7 m8 m9 u : Int) (h4 : has m6 4 = false) (h16 : has m6 16 = false) (h2 : has m6 2 = true) (h7 : m5 = 7) (hb : 2 ≤ b) (w : World) : Calls Try.prog 33 #[(Value.agg #[.int .i64 a, .int .i64 b, .int .u32 c, .int .u32 d, .int .u32 e, .int .u32 f, .int .i64 g, .int .i64 h, .int .u8 i, .int .i64 j, .int .i64 k]), (Value.agg #[.int .u16 m0, .int .u16 m1, .int .u32 m2, .int .u32 m3, .int .u8 m4, .int .u8 m5, .int .u8 m6, .int .u16 m7, .int .u16 m8, .int .u16 m9]), .int .i64 u] w (CPost w (listeningv ⟨a, b, c, d, e, f, g, h, i, j, k⟩ ⟨m0, m1, m2, m3, m4, m5, m6, m7, m8, m9⟩ u)) := by
  have hr : listeningv ⟨a, b, c, d, e, f, g, h, i, j, k⟩ ⟨m0, m1, m2, m3, m4, m5, m6, m7, m8, m9⟩ u = (⟨3, b, c, c, (c + 1) % 4294967296, (m2 + 1) % 4294967296, 2, u, (replyv 7 u b).1, j, 0⟩, [(hd c ((m2 + 1) % 4294967296) 18 ((replyv 7 u b).1))]) := by (have e2 : (replyv 7 u b).2 = 2 := (by simp [replyv, hb])); subst h7; simp [listeningv, h4, h16, h2, e2]
  rw [hr]; clear hr
  subst h7
  go_enter Try.func33, Try.ntmps33
  go_wp2_with (first | (go_at_call 38; refine (has_calls _ _ _ _ _ _ _ _ _ _ _ _).mono ?_; rintro e w' ⟨rfl, rfl⟩))
  go_region
  go_wp2_with (first | (go_at_call 40; refine (Reply_yes _ _ (by assumption) _).mono ?_; rintro e w' ⟨rfl, rfl⟩))
  go_region_held3 (fun W => W.cell? ⟨w.heap.size, 0, none⟩ = some (.int .i64 3) ∧ W.cell? ⟨w.heap.size, 1, none⟩ = some (.int .i64 b) ∧ W.cell? ⟨w.heap.size, 2, none⟩ = some (.int .u32 c) ∧ W.cell? ⟨w.heap.size, 3, none⟩ = some (.int .u32 c) ∧ W.cell? ⟨w.heap.size, 4, none⟩ = some (.int .u32 ((c + 1) % 4294967296)) ∧ W.cell? ⟨w.heap.size, 5, none⟩ = some (.int .u32 ((m2 + 1) % 4294967296)) ∧ W.cell? ⟨w.heap.size, 6, none⟩ = some (.int .i64 2) ∧ W.cell? ⟨w.heap.size, 7, none⟩ = some (.int .i64 u) ∧ W.cell? ⟨w.heap.size, 8, none⟩ = some (.int .u8 ((replyv 7 u b).1)) ∧ W.cell? ⟨w.heap.size, 9, none⟩ = some (.int .i64 j) ∧ W.cell? ⟨w.heap.size, 10, none⟩ = some (.int .i64 0)) (((repeat' apply And.intro); all_goals (go_simp; done))) (first | (go_at_call 24; refine (answer_calls _ _ _ _ _ _ _ _ _ _ _ _).mono ?_; rintro e w' ⟨rfl, rfl⟩) | (go_at_call 26; refine (say_calls _ _ _ _).mono ?_; rintro e w' ⟨rfl, rfl⟩))
  go_wp2
  refine bodyPost_ret (v := .tuple #[(Value.agg #[.int .i64 3, .int .i64 b, .int .u32 c, .int .u32 c, .int .u32 ((c + 1) % 4294967296), .int .u32 ((m2 + 1) % 4294967296), .int .i64 2, .int .i64 u, .int .u8 ((replyv 7 u b).1), .int .i64 j, .int .i64 0]), .slice (some ⟨w.heap.size + 1 + 1 + 1 + 1 + 1 + 1 + 1 + 1 + 1 + 1 + 1 + 1, 0, none⟩) 1 1]) (by simp [results, Try.results33, go_sem]) rfl ⟨_, rfl, Segs.one (hd c ((m2 + 1) % 4294967296) 18 ((replyv 7 u b).1)) (by first | (simp; done) | (simp; omega) | omega) (by repeat (first | exact heap_new (by simp) | refine heap_alloc ?_ _ | refine heap_drew ?_)), (by repeat (first | exact Below.refl _ _ | refine Below.drew ?_ | refine below_drewN ?_ _ | refine Below.alloc ?_ (by first | (simp; done) | (simp; omega)) _))⟩

theorem listening_calls (a b c d e f g h i j k m0 m1 m2 m3 m4 m5 m6 m7 m8 m9 u : Int) (w : World) : Calls Try.prog 33 #[(Value.agg #[.int .i64 a, .int .i64 b, .int .u32 c, .int .u32 d, .int .u32 e, .int .u32 f, .int .i64 g, .int .i64 h, .int .u8 i, .int .i64 j, .int .i64 k]), (Value.agg #[.int .u16 m0, .int .u16 m1, .int .u32 m2, .int .u32 m3, .int .u8 m4, .int .u8 m5, .int .u8 m6, .int .u16 m7, .int .u16 m8, .int .u16 m9]), .int .i64 u] w (CPost w (listeningv ⟨a, b, c, d, e, f, g, h, i, j, k⟩ ⟨m0, m1, m2, m3, m4, m5, m6, m7, m8, m9⟩ u)) := by
  cases h4 : has m6 4
  · cases h16 : has m6 16
    · cases h2 : has m6 2
      · exact listening_none (a := a) (b := b) (c := c) (d := d) (e := e) (f := f) (g := g) (h := h) (i := i) (j := j) (k := k) (m0 := m0) (m1 := m1) (m2 := m2) (m3 := m3) (m4 := m4) (m5 := m5) (m6 := m6) (m7 := m7) (m8 := m8) (m9 := m9) (u := u) h4 h16 h2 w
      · by_cases hr : m5 = 7 ∧ 2 ≤ b
        · exact listening_syn_yes (a := a) (b := b) (c := c) (d := d) (e := e) (f := f) (g := g) (h := h) (i := i) (j := j) (k := k) (m0 := m0) (m1 := m1) (m2 := m2) (m3 := m3) (m4 := m4) (m5 := m5) (m6 := m6) (m7 := m7) (m8 := m8) (m9 := m9) (u := u) h4 h16 h2 hr.1 hr.2 w
        · exact listening_syn_no (a := a) (b := b) (c := c) (d := d) (e := e) (f := f) (g := g) (h := h) (i := i) (j := j) (k := k) (m0 := m0) (m1 := m1) (m2 := m2) (m3 := m3) (m4 := m4) (m5 := m5) (m6 := m6) (m7 := m7) (m8 := m8) (m9 := m9) (u := u) h4 h16 h2 hr w
    · exact listening_ack (a := a) (b := b) (c := c) (d := d) (e := e) (f := f) (g := g) (h := h) (i := i) (j := j) (k := k) (m0 := m0) (m1 := m1) (m2 := m2) (m3 := m3) (m4 := m4) (m5 := m5) (m6 := m6) (m7 := m7) (m8 := m8) (m9 := m9) (u := u) h4 h16 w
  · exact listening_rst (a := a) (b := b) (c := c) (d := d) (e := e) (f := f) (g := g) (h := h) (i := i) (j := j) (k := k) (m0 := m0) (m1 := m1) (m2 := m2) (m3 := m3) (m4 := m4) (m5 := m5) (m6 := m6) (m7 := m7) (m8 := m8) (m9 := m9) (u := u) h4 w
end Go.Proofs.Ytbklomnlhpbhnaa
