import Derived.Test.YtbklomnlhpbhnaaA6
import Derived.Lib.Hide
import Derived.LoopN
import Derived.BigRegion
namespace Go.Proofs.Ytbklomnlhpbhnaa
open Go.RowKit

/-- An answer taken. -/
def askedv (x : C) (m : H) (code : Int) : C × List H :=
  if has m.flags 4 = true then (if has m.flags 16 = true ∧ m.ack = x.nxt then (⟨0, x.want, x.iss, x.una, x.nxt, x.rcv, x.mode, x.code, x.reply, x.start, x.tries⟩, []) else (x, []))
  else if has m.flags 18 = false then (x, [])
  else if ¬ (has m.flags 16 = true ∧ m.ack = x.nxt) then (x, [hd m.ack 0 4 0])
  else if (settle x.want m.ace).1 = 2 then
    (⟨4, x.want, x.iss, m.ack, x.nxt, (m.seq + 1) % 4294967296, 2, (settle x.want m.ace).2, x.reply, startv (shake code), x.tries⟩, [hd x.nxt ((m.seq + 1) % 4294967296) 16 (shake code)])
  else (⟨4, x.want, x.iss, m.ack, x.nxt, (m.seq + 1) % 4294967296, (settle x.want m.ace).1, (settle x.want m.ace).2, x.reply, x.start, x.tries⟩, [hd x.nxt ((m.seq + 1) % 4294967296) 16 0])
set_option maxHeartbeats 1000000 in
theorem asked_rst_a (a b c d e f g h i j k m0 m1 m2 m3 m4 m5 m6 m7 m8 m9 u : Int) (h16 : has m6 16 = false) (h4 : has m6 4 = true) (w : World) : Calls Try.prog 34 #[(Value.agg #[.int .i64 a, .int .i64 b, .int .u32 c, .int .u32 d, .int .u32 e, .int .u32 f, .int .i64 g, .int .i64 h, .int .u8 i, .int .i64 j, .int .i64 k]), (Value.agg #[.int .u16 m0, .int .u16 m1, .int .u32 m2, .int .u32 m3, .int .u8 m4, .int .u8 m5, .int .u8 m6, .int .u16 m7, .int .u16 m8, .int .u16 m9]), .int .i64 u] w (CPost w (askedv ⟨a, b, c, d, e, f, g, h, i, j, k⟩ ⟨m0, m1, m2, m3, m4, m5, m6, m7, m8, m9⟩ u)) := by
  have hr : askedv ⟨a, b, c, d, e, f, g, h, i, j, k⟩ ⟨m0, m1, m2, m3, m4, m5, m6, m7, m8, m9⟩ u = (⟨a, b, c, d, e, f, g, h, i, j, k⟩, []) := by simp [askedv, *]
  rw [hr]; clear hr
  go_enter Try.func34, Try.ntmps34
  go_wp2_with (first | (go_at_call 38; refine (has_calls _ _ _ _ _ _ _ _ _ _ _ _).mono ?_; rintro e w' ⟨rfl, rfl⟩))
  refine bodyPost_ret (v := .tuple #[(Value.agg #[.int .i64 a, .int .i64 b, .int .u32 c, .int .u32 d, .int .u32 e, .int .u32 f, .int .i64 g, .int .i64 h, .int .u8 i, .int .i64 j, .int .i64 k]), .slice none 0 0]) (by simp [results, Try.results34, go_sem]) rfl ⟨_, rfl, Segs.nil _ _, (by repeat (first | exact Below.refl _ _ | refine Below.drew ?_ | refine below_drewN ?_ _ | refine Below.alloc ?_ (by first | (simp; done) | (simp; omega)) _))⟩

set_option maxHeartbeats 1000000 in
theorem asked_rst_b (a b c d e f g h i j k m0 m1 m2 m3 m4 m5 m6 m7 m8 m9 u : Int) (h16 : has m6 16 = true) (h4 : has m6 4 = true) (he : ¬ m3 = e) (w : World) : Calls Try.prog 34 #[(Value.agg #[.int .i64 a, .int .i64 b, .int .u32 c, .int .u32 d, .int .u32 e, .int .u32 f, .int .i64 g, .int .i64 h, .int .u8 i, .int .i64 j, .int .i64 k]), (Value.agg #[.int .u16 m0, .int .u16 m1, .int .u32 m2, .int .u32 m3, .int .u8 m4, .int .u8 m5, .int .u8 m6, .int .u16 m7, .int .u16 m8, .int .u16 m9]), .int .i64 u] w (CPost w (askedv ⟨a, b, c, d, e, f, g, h, i, j, k⟩ ⟨m0, m1, m2, m3, m4, m5, m6, m7, m8, m9⟩ u)) := by
  have hr : askedv ⟨a, b, c, d, e, f, g, h, i, j, k⟩ ⟨m0, m1, m2, m3, m4, m5, m6, m7, m8, m9⟩ u = (⟨a, b, c, d, e, f, g, h, i, j, k⟩, []) := by simp [askedv, *]
  rw [hr]; clear hr
  have be : (m3 == e) = false := by simpa using he
  go_enter Try.func34, Try.ntmps34
  go_wp2_with (first | (go_at_call 38; refine (has_calls _ _ _ _ _ _ _ _ _ _ _ _).mono ?_; rintro e w' ⟨rfl, rfl⟩))
  refine bodyPost_ret (v := .tuple #[(Value.agg #[.int .i64 a, .int .i64 b, .int .u32 c, .int .u32 d, .int .u32 e, .int .u32 f, .int .i64 g, .int .i64 h, .int .u8 i, .int .i64 j, .int .i64 k]), .slice none 0 0]) (by simp [results, Try.results34, go_sem]) rfl ⟨_, rfl, Segs.nil _ _, (by repeat (first | exact Below.refl _ _ | refine Below.drew ?_ | refine below_drewN ?_ _ | refine Below.alloc ?_ (by first | (simp; done) | (simp; omega)) _))⟩

set_option maxHeartbeats 1000000 in
theorem asked_rst_c (a b c d e f g h i j k m0 m1 m2 m3 m4 m5 m6 m7 m8 m9 u : Int) (h16 : has m6 16 = true) (h4 : has m6 4 = true) (he : m3 = e) (w : World) : Calls Try.prog 34 #[(Value.agg #[.int .i64 a, .int .i64 b, .int .u32 c, .int .u32 d, .int .u32 e, .int .u32 f, .int .i64 g, .int .i64 h, .int .u8 i, .int .i64 j, .int .i64 k]), (Value.agg #[.int .u16 m0, .int .u16 m1, .int .u32 m2, .int .u32 m3, .int .u8 m4, .int .u8 m5, .int .u8 m6, .int .u16 m7, .int .u16 m8, .int .u16 m9]), .int .i64 u] w (CPost w (askedv ⟨a, b, c, d, e, f, g, h, i, j, k⟩ ⟨m0, m1, m2, m3, m4, m5, m6, m7, m8, m9⟩ u)) := by
  have hr : askedv ⟨a, b, c, d, e, f, g, h, i, j, k⟩ ⟨m0, m1, m2, m3, m4, m5, m6, m7, m8, m9⟩ u = (⟨0, b, c, d, e, f, g, h, i, j, k⟩, []) := by simp [askedv, *]
  rw [hr]; clear hr
  have be : (m3 == e) = true := by simpa using he
  clear he
  go_enter Try.func34, Try.ntmps34
  go_wp2_with (first | (go_at_call 38; refine (has_calls _ _ _ _ _ _ _ _ _ _ _ _).mono ?_; rintro e w' ⟨rfl, rfl⟩))
  refine bodyPost_ret (v := .tuple #[(Value.agg #[.int .i64 0, .int .i64 b, .int .u32 c, .int .u32 d, .int .u32 e, .int .u32 f, .int .i64 g, .int .i64 h, .int .u8 i, .int .i64 j, .int .i64 k]), .slice none 0 0]) (by simp [results, Try.results34, go_sem]) rfl ⟨_, rfl, Segs.nil _ _, (by repeat (first | exact Below.refl _ _ | refine Below.drew ?_ | refine below_drewN ?_ _ | refine Below.alloc ?_ (by first | (simp; done) | (simp; omega)) _))⟩

set_option maxHeartbeats 1000000 in
theorem asked_no_a (a b c d e f g h i j k m0 m1 m2 m3 m4 m5 m6 m7 m8 m9 u : Int) (h16 : has m6 16 = false) (h4 : has m6 4 = false) (h18 : has m6 18 = false) (w : World) : Calls Try.prog 34 #[(Value.agg #[.int .i64 a, .int .i64 b, .int .u32 c, .int .u32 d, .int .u32 e, .int .u32 f, .int .i64 g, .int .i64 h, .int .u8 i, .int .i64 j, .int .i64 k]), (Value.agg #[.int .u16 m0, .int .u16 m1, .int .u32 m2, .int .u32 m3, .int .u8 m4, .int .u8 m5, .int .u8 m6, .int .u16 m7, .int .u16 m8, .int .u16 m9]), .int .i64 u] w (CPost w (askedv ⟨a, b, c, d, e, f, g, h, i, j, k⟩ ⟨m0, m1, m2, m3, m4, m5, m6, m7, m8, m9⟩ u)) := by
  have hr : askedv ⟨a, b, c, d, e, f, g, h, i, j, k⟩ ⟨m0, m1, m2, m3, m4, m5, m6, m7, m8, m9⟩ u = (⟨a, b, c, d, e, f, g, h, i, j, k⟩, []) := by simp [askedv, *]
  rw [hr]; clear hr
  go_enter Try.func34, Try.ntmps34
  go_wp2_with (first | (go_at_call 38; refine (has_calls _ _ _ _ _ _ _ _ _ _ _ _).mono ?_; rintro e w' ⟨rfl, rfl⟩))
  refine bodyPost_ret (v := .tuple #[(Value.agg #[.int .i64 a, .int .i64 b, .int .u32 c, .int .u32 d, .int .u32 e, .int .u32 f, .int .i64 g, .int .i64 h, .int .u8 i, .int .i64 j, .int .i64 k]), .slice none 0 0]) (by simp [results, Try.results34, go_sem]) rfl ⟨_, rfl, Segs.nil _ _, (by repeat (first | exact Below.refl _ _ | refine Below.drew ?_ | refine below_drewN ?_ _ | refine Below.alloc ?_ (by first | (simp; done) | (simp; omega)) _))⟩

set_option maxHeartbeats 1000000 in
theorem asked_no_b (a b c d e f g h i j k m0 m1 m2 m3 m4 m5 m6 m7 m8 m9 u : Int) (h16 : has m6 16 = true) (h4 : has m6 4 = false) (h18 : has m6 18 = false) (he : ¬ m3 = e) (w : World) : Calls Try.prog 34 #[(Value.agg #[.int .i64 a, .int .i64 b, .int .u32 c, .int .u32 d, .int .u32 e, .int .u32 f, .int .i64 g, .int .i64 h, .int .u8 i, .int .i64 j, .int .i64 k]), (Value.agg #[.int .u16 m0, .int .u16 m1, .int .u32 m2, .int .u32 m3, .int .u8 m4, .int .u8 m5, .int .u8 m6, .int .u16 m7, .int .u16 m8, .int .u16 m9]), .int .i64 u] w (CPost w (askedv ⟨a, b, c, d, e, f, g, h, i, j, k⟩ ⟨m0, m1, m2, m3, m4, m5, m6, m7, m8, m9⟩ u)) := by
  have hr : askedv ⟨a, b, c, d, e, f, g, h, i, j, k⟩ ⟨m0, m1, m2, m3, m4, m5, m6, m7, m8, m9⟩ u = (⟨a, b, c, d, e, f, g, h, i, j, k⟩, []) := by simp [askedv, *]
  rw [hr]; clear hr
  have be : (m3 == e) = false := by simpa using he
  go_enter Try.func34, Try.ntmps34
  go_wp2_with (first | (go_at_call 38; refine (has_calls _ _ _ _ _ _ _ _ _ _ _ _).mono ?_; rintro e w' ⟨rfl, rfl⟩))
  refine bodyPost_ret (v := .tuple #[(Value.agg #[.int .i64 a, .int .i64 b, .int .u32 c, .int .u32 d, .int .u32 e, .int .u32 f, .int .i64 g, .int .i64 h, .int .u8 i, .int .i64 j, .int .i64 k]), .slice none 0 0]) (by simp [results, Try.results34, go_sem]) rfl ⟨_, rfl, Segs.nil _ _, (by repeat (first | exact Below.refl _ _ | refine Below.drew ?_ | refine below_drewN ?_ _ | refine Below.alloc ?_ (by first | (simp; done) | (simp; omega)) _))⟩

set_option maxHeartbeats 1000000 in
theorem asked_no_c (a b c d e f g h i j k m0 m1 m2 m3 m4 m5 m6 m7 m8 m9 u : Int) (h16 : has m6 16 = true) (h4 : has m6 4 = false) (h18 : has m6 18 = false) (he : m3 = e) (w : World) : Calls Try.prog 34 #[(Value.agg #[.int .i64 a, .int .i64 b, .int .u32 c, .int .u32 d, .int .u32 e, .int .u32 f, .int .i64 g, .int .i64 h, .int .u8 i, .int .i64 j, .int .i64 k]), (Value.agg #[.int .u16 m0, .int .u16 m1, .int .u32 m2, .int .u32 m3, .int .u8 m4, .int .u8 m5, .int .u8 m6, .int .u16 m7, .int .u16 m8, .int .u16 m9]), .int .i64 u] w (CPost w (askedv ⟨a, b, c, d, e, f, g, h, i, j, k⟩ ⟨m0, m1, m2, m3, m4, m5, m6, m7, m8, m9⟩ u)) := by
  have hr : askedv ⟨a, b, c, d, e, f, g, h, i, j, k⟩ ⟨m0, m1, m2, m3, m4, m5, m6, m7, m8, m9⟩ u = (⟨a, b, c, d, e, f, g, h, i, j, k⟩, []) := by simp [askedv, *]
  rw [hr]; clear hr
  have be : (m3 == e) = true := by simpa using he
  clear he
  go_enter Try.func34, Try.ntmps34
  go_wp2_with (first | (go_at_call 38; refine (has_calls _ _ _ _ _ _ _ _ _ _ _ _).mono ?_; rintro e w' ⟨rfl, rfl⟩))
  refine bodyPost_ret (v := .tuple #[(Value.agg #[.int .i64 a, .int .i64 b, .int .u32 c, .int .u32 d, .int .u32 e, .int .u32 f, .int .i64 g, .int .i64 h, .int .u8 i, .int .i64 j, .int .i64 k]), .slice none 0 0]) (by simp [results, Try.results34, go_sem]) rfl ⟨_, rfl, Segs.nil _ _, (by repeat (first | exact Below.refl _ _ | refine Below.drew ?_ | refine below_drewN ?_ _ | refine Below.alloc ?_ (by first | (simp; done) | (simp; omega)) _))⟩

set_option maxHeartbeats 1000000 in
theorem asked_wrong_a (a b c d e f g h i j k m0 m1 m2 m3 m4 m5 m6 m7 m8 m9 u : Int) (h16 : has m6 16 = false) (h4 : has m6 4 = false) (h18 : has m6 18 = true) (w : World) : Calls Try.prog 34 #[(Value.agg #[.int .i64 a, .int .i64 b, .int .u32 c, .int .u32 d, .int .u32 e, .int .u32 f, .int .i64 g, .int .i64 h, .int .u8 i, .int .i64 j, .int .i64 k]), (Value.agg #[.int .u16 m0, .int .u16 m1, .int .u32 m2, .int .u32 m3, .int .u8 m4, .int .u8 m5, .int .u8 m6, .int .u16 m7, .int .u16 m8, .int .u16 m9]), .int .i64 u] w (CPost w (askedv ⟨a, b, c, d, e, f, g, h, i, j, k⟩ ⟨m0, m1, m2, m3, m4, m5, m6, m7, m8, m9⟩ u)) := by
  have hr : askedv ⟨a, b, c, d, e, f, g, h, i, j, k⟩ ⟨m0, m1, m2, m3, m4, m5, m6, m7, m8, m9⟩ u = (⟨a, b, c, d, e, f, g, h, i, j, k⟩, [(hd m3 0 4 0)]) := by simp [askedv, *]
  rw [hr]; clear hr
  go_enter Try.func34, Try.ntmps34
  go_wp2_with (first | (go_at_call 38; refine (has_calls _ _ _ _ _ _ _ _ _ _ _ _).mono ?_; rintro e w' ⟨rfl, rfl⟩))
  go_region_held3 (fun W => W.cell? ⟨w.heap.size, 0, none⟩ = some (.int .i64 a) ∧ W.cell? ⟨w.heap.size, 1, none⟩ = some (.int .i64 b) ∧ W.cell? ⟨w.heap.size, 2, none⟩ = some (.int .u32 c) ∧ W.cell? ⟨w.heap.size, 3, none⟩ = some (.int .u32 d) ∧ W.cell? ⟨w.heap.size, 4, none⟩ = some (.int .u32 e) ∧ W.cell? ⟨w.heap.size, 5, none⟩ = some (.int .u32 f) ∧ W.cell? ⟨w.heap.size, 6, none⟩ = some (.int .i64 g) ∧ W.cell? ⟨w.heap.size, 7, none⟩ = some (.int .i64 h) ∧ W.cell? ⟨w.heap.size, 8, none⟩ = some (.int .u8 i) ∧ W.cell? ⟨w.heap.size, 9, none⟩ = some (.int .i64 j) ∧ W.cell? ⟨w.heap.size, 10, none⟩ = some (.int .i64 k) ∧ W.cell? ⟨w.heap.size + 1, 0, none⟩ = some (.int .u16 m0) ∧ W.cell? ⟨w.heap.size + 1, 1, none⟩ = some (.int .u16 m1) ∧ W.cell? ⟨w.heap.size + 1, 2, none⟩ = some (.int .u32 m2) ∧ W.cell? ⟨w.heap.size + 1, 3, none⟩ = some (.int .u32 m3) ∧ W.cell? ⟨w.heap.size + 1, 4, none⟩ = some (.int .u8 m4) ∧ W.cell? ⟨w.heap.size + 1, 5, none⟩ = some (.int .u8 m5) ∧ W.cell? ⟨w.heap.size + 1, 6, none⟩ = some (.int .u8 m6) ∧ W.cell? ⟨w.heap.size + 1, 7, none⟩ = some (.int .u16 m7) ∧ W.cell? ⟨w.heap.size + 1, 8, none⟩ = some (.int .u16 m8) ∧ W.cell? ⟨w.heap.size + 1, 9, none⟩ = some (.int .u16 m9)) (((repeat' apply And.intro); all_goals (go_simp; done))) (first | (go_at_call 39; refine (refuse_calls _ _).mono ?_; rintro e w' ⟨rfl, rfl⟩) | (go_at_call 26; refine (say_calls _ _ _ _).mono ?_; rintro e w' ⟨rfl, rfl⟩))
  go_wp2
  refine bodyPost_ret (v := .tuple #[(Value.agg #[.int .i64 a, .int .i64 b, .int .u32 c, .int .u32 d, .int .u32 e, .int .u32 f, .int .i64 g, .int .i64 h, .int .u8 i, .int .i64 j, .int .i64 k]), .slice (some ⟨w.heap.size + 1 + 1 + 1 + 1 + 1 + 1 + 1, 0, none⟩) 1 1]) (by simp [results, Try.results34, go_sem]) rfl ⟨_, rfl, Segs.one (hd m3 0 4 0) (by first | (simp; done) | (simp; omega) | omega) (by repeat (first | exact heap_new (by simp) | refine heap_alloc ?_ _ | refine heap_drew ?_)), (by repeat (first | exact Below.refl _ _ | refine Below.drew ?_ | refine below_drewN ?_ _ | refine Below.alloc ?_ (by first | (simp; done) | (simp; omega)) _))⟩

set_option maxHeartbeats 1000000 in
theorem asked_wrong_b (a b c d e f g h i j k m0 m1 m2 m3 m4 m5 m6 m7 m8 m9 u : Int) (h16 : has m6 16 = true) (h4 : has m6 4 = false) (h18 : has m6 18 = true) (he : ¬ m3 = e) (w : World) : Calls Try.prog 34 #[(Value.agg #[.int .i64 a, .int .i64 b, .int .u32 c, .int .u32 d, .int .u32 e, .int .u32 f, .int .i64 g, .int .i64 h, .int .u8 i, .int .i64 j, .int .i64 k]), (Value.agg #[.int .u16 m0, .int .u16 m1, .int .u32 m2, .int .u32 m3, .int .u8 m4, .int .u8 m5, .int .u8 m6, .int .u16 m7, .int .u16 m8, .int .u16 m9]), .int .i64 u] w (CPost w (askedv ⟨a, b, c, d, e, f, g, h, i, j, k⟩ ⟨m0, m1, m2, m3, m4, m5, m6, m7, m8, m9⟩ u)) := by
  have hr : askedv ⟨a, b, c, d, e, f, g, h, i, j, k⟩ ⟨m0, m1, m2, m3, m4, m5, m6, m7, m8, m9⟩ u = (⟨a, b, c, d, e, f, g, h, i, j, k⟩, [(hd m3 0 4 0)]) := by simp [askedv, *]
  rw [hr]; clear hr
  have be : (m3 == e) = false := by simpa using he
  go_enter Try.func34, Try.ntmps34
  go_wp2_with (first | (go_at_call 38; refine (has_calls _ _ _ _ _ _ _ _ _ _ _ _).mono ?_; rintro e w' ⟨rfl, rfl⟩))
  go_region_held3 (fun W => W.cell? ⟨w.heap.size, 0, none⟩ = some (.int .i64 a) ∧ W.cell? ⟨w.heap.size, 1, none⟩ = some (.int .i64 b) ∧ W.cell? ⟨w.heap.size, 2, none⟩ = some (.int .u32 c) ∧ W.cell? ⟨w.heap.size, 3, none⟩ = some (.int .u32 d) ∧ W.cell? ⟨w.heap.size, 4, none⟩ = some (.int .u32 e) ∧ W.cell? ⟨w.heap.size, 5, none⟩ = some (.int .u32 f) ∧ W.cell? ⟨w.heap.size, 6, none⟩ = some (.int .i64 g) ∧ W.cell? ⟨w.heap.size, 7, none⟩ = some (.int .i64 h) ∧ W.cell? ⟨w.heap.size, 8, none⟩ = some (.int .u8 i) ∧ W.cell? ⟨w.heap.size, 9, none⟩ = some (.int .i64 j) ∧ W.cell? ⟨w.heap.size, 10, none⟩ = some (.int .i64 k) ∧ W.cell? ⟨w.heap.size + 1, 0, none⟩ = some (.int .u16 m0) ∧ W.cell? ⟨w.heap.size + 1, 1, none⟩ = some (.int .u16 m1) ∧ W.cell? ⟨w.heap.size + 1, 2, none⟩ = some (.int .u32 m2) ∧ W.cell? ⟨w.heap.size + 1, 3, none⟩ = some (.int .u32 m3) ∧ W.cell? ⟨w.heap.size + 1, 4, none⟩ = some (.int .u8 m4) ∧ W.cell? ⟨w.heap.size + 1, 5, none⟩ = some (.int .u8 m5) ∧ W.cell? ⟨w.heap.size + 1, 6, none⟩ = some (.int .u8 m6) ∧ W.cell? ⟨w.heap.size + 1, 7, none⟩ = some (.int .u16 m7) ∧ W.cell? ⟨w.heap.size + 1, 8, none⟩ = some (.int .u16 m8) ∧ W.cell? ⟨w.heap.size + 1, 9, none⟩ = some (.int .u16 m9)) (((repeat' apply And.intro); all_goals (go_simp; done))) (first | (go_at_call 39; refine (refuse_calls _ _).mono ?_; rintro e w' ⟨rfl, rfl⟩) | (go_at_call 26; refine (say_calls _ _ _ _).mono ?_; rintro e w' ⟨rfl, rfl⟩))
  go_wp2
  refine bodyPost_ret (v := .tuple #[(Value.agg #[.int .i64 a, .int .i64 b, .int .u32 c, .int .u32 d, .int .u32 e, .int .u32 f, .int .i64 g, .int .i64 h, .int .u8 i, .int .i64 j, .int .i64 k]), .slice (some ⟨w.heap.size + 1 + 1 + 1 + 1 + 1 + 1 + 1, 0, none⟩) 1 1]) (by simp [results, Try.results34, go_sem]) rfl ⟨_, rfl, Segs.one (hd m3 0 4 0) (by first | (simp; done) | (simp; omega) | omega) (by repeat (first | exact heap_new (by simp) | refine heap_alloc ?_ _ | refine heap_drew ?_)), (by repeat (first | exact Below.refl _ _ | refine Below.drew ?_ | refine below_drewN ?_ _ | refine Below.alloc ?_ (by first | (simp; done) | (simp; omega)) _))⟩

set_option maxHeartbeats 1000000 in
theorem asked_open_n (a b c d e f g h i j k m0 m1 m2 m3 m4 m5 m6 m7 m8 m9 u : Int) (h16 : has m6 16 = true) (h4 : has m6 4 = false) (h18 : has m6 18 = true) (he : m3 = e) (hm : ¬ (settle b m5).1 = 2) (w : World) : Calls Try.prog 34 #[(Value.agg #[.int .i64 a, .int .i64 b, .int .u32 c, .int .u32 d, .int .u32 e, .int .u32 f, .int .i64 g, .int .i64 h, .int .u8 i, .int .i64 j, .int .i64 k]), (Value.agg #[.int .u16 m0, .int .u16 m1, .int .u32 m2, .int .u32 m3, .int .u8 m4, .int .u8 m5, .int .u8 m6, .int .u16 m7, .int .u16 m8, .int .u16 m9]), .int .i64 u] w (CPost w (askedv ⟨a, b, c, d, e, f, g, h, i, j, k⟩ ⟨m0, m1, m2, m3, m4, m5, m6, m7, m8, m9⟩ u)) := by
  have hr : askedv ⟨a, b, c, d, e, f, g, h, i, j, k⟩ ⟨m0, m1, m2, m3, m4, m5, m6, m7, m8, m9⟩ u = (⟨4, b, c, m3, e, (m2 + 1) % 4294967296, (settle b m5).1, (settle b m5).2, i, j, k⟩, [(hd e ((m2 + 1) % 4294967296) 16 0)]) := by simp [askedv, h16, h4, h18, he, hm]
  rw [hr]; clear hr
  have be : (m3 == e) = true := by simpa using he
  clear he
  have bm : ((settle b m5).1 == 2) = false := by simpa using hm
  clear hm
  go_enter Try.func34, Try.ntmps34
  go_wp2_with (first | (go_at_call 38; refine (has_calls _ _ _ _ _ _ _ _ _ _ _ _).mono ?_; rintro e w' ⟨rfl, rfl⟩))
  go_region
  go_wp2_with (first | (go_at_call 41; refine (Settle_calls _ _ _).mono ?_; rintro e w' ⟨rfl, rfl⟩) | (go_at_call 25; refine (ack_calls _ _ _ _ _ _ _ _ _ _ _ _).mono ?_; rintro e w' ⟨rfl, rfl⟩))
  go_region_held3 (fun W => W.cell? ⟨w.heap.size, 0, none⟩ = some (.int .i64 4) ∧ W.cell? ⟨w.heap.size, 1, none⟩ = some (.int .i64 b) ∧ W.cell? ⟨w.heap.size, 2, none⟩ = some (.int .u32 c) ∧ W.cell? ⟨w.heap.size, 3, none⟩ = some (.int .u32 m3) ∧ W.cell? ⟨w.heap.size, 4, none⟩ = some (.int .u32 e) ∧ W.cell? ⟨w.heap.size, 5, none⟩ = some (.int .u32 ((m2 + 1) % 4294967296)) ∧ W.cell? ⟨w.heap.size, 6, none⟩ = some (.int .i64 ((settle b m5).1)) ∧ W.cell? ⟨w.heap.size, 7, none⟩ = some (.int .i64 ((settle b m5).2)) ∧ W.cell? ⟨w.heap.size, 8, none⟩ = some (.int .u8 i) ∧ W.cell? ⟨w.heap.size, 9, none⟩ = some (.int .i64 j) ∧ W.cell? ⟨w.heap.size, 10, none⟩ = some (.int .i64 k) ∧ W.cell? ⟨w.heap.size + 1 + 1 + 1 + 1 + 1 + 1 + 1 + 1 + 1 + 1, 0, none⟩ = some (.int .u16 0) ∧ W.cell? ⟨w.heap.size + 1 + 1 + 1 + 1 + 1 + 1 + 1 + 1 + 1 + 1, 1, none⟩ = some (.int .u16 0) ∧ W.cell? ⟨w.heap.size + 1 + 1 + 1 + 1 + 1 + 1 + 1 + 1 + 1 + 1, 2, none⟩ = some (.int .u32 e) ∧ W.cell? ⟨w.heap.size + 1 + 1 + 1 + 1 + 1 + 1 + 1 + 1 + 1 + 1, 3, none⟩ = some (.int .u32 ((m2 + 1) % 4294967296)) ∧ W.cell? ⟨w.heap.size + 1 + 1 + 1 + 1 + 1 + 1 + 1 + 1 + 1 + 1, 4, none⟩ = some (.int .u8 5) ∧ W.cell? ⟨w.heap.size + 1 + 1 + 1 + 1 + 1 + 1 + 1 + 1 + 1 + 1, 5, none⟩ = some (.int .u8 0) ∧ W.cell? ⟨w.heap.size + 1 + 1 + 1 + 1 + 1 + 1 + 1 + 1 + 1 + 1, 6, none⟩ = some (.int .u8 16) ∧ W.cell? ⟨w.heap.size + 1 + 1 + 1 + 1 + 1 + 1 + 1 + 1 + 1 + 1, 7, none⟩ = some (.int .u16 0) ∧ W.cell? ⟨w.heap.size + 1 + 1 + 1 + 1 + 1 + 1 + 1 + 1 + 1 + 1, 8, none⟩ = some (.int .u16 0) ∧ W.cell? ⟨w.heap.size + 1 + 1 + 1 + 1 + 1 + 1 + 1 + 1 + 1 + 1, 9, none⟩ = some (.int .u16 0)) (((repeat' apply And.intro); all_goals (go_simp; done))) (first | (go_at_call 26; refine (say_calls _ _ _ _).mono ?_; rintro e w' ⟨rfl, rfl⟩))
  go_wp2
  refine bodyPost_ret (v := .tuple #[(Value.agg #[.int .i64 4, .int .i64 b, .int .u32 c, .int .u32 m3, .int .u32 e, .int .u32 ((m2 + 1) % 4294967296), .int .i64 ((settle b m5).1), .int .i64 ((settle b m5).2), .int .u8 i, .int .i64 j, .int .i64 k]), .slice (some ⟨w.heap.size + 1 + 1 + 1 + 1 + 1 + 1 + 1 + 1 + 1 + 1 + 1, 0, none⟩) 1 1]) (by simp [results, Try.results34, go_sem]) rfl ⟨_, rfl, Segs.one (hd e ((m2 + 1) % 4294967296) 16 0) (by first | (simp; done) | (simp; omega) | omega) (by repeat (first | exact heap_new (by simp) | refine heap_alloc ?_ _ | refine heap_drew ?_)), (by repeat (first | exact Below.refl _ _ | refine Below.drew ?_ | refine below_drewN ?_ _ | refine Below.alloc ?_ (by first | (simp; done) | (simp; omega)) _))⟩

set_option maxHeartbeats 6000000 in
theorem asked_open_y (a b c d e f g h i j k m0 m1 m2 m3 m4 m5 m6 m7 m8 m9 u : Int) (h16 : has m6 16 = true) (h4 : has m6 4 = false) (h18 : has m6 18 = true) (he : m3 = e) (hm : (settle b m5).1 = 2) (w : World) : Calls Try.prog 34 #[(Value.agg #[.int .i64 a, .int .i64 b, .int .u32 c, .int .u32 d, .int .u32 e, .int .u32 f, .int .i64 g, .int .i64 h, .int .u8 i, .int .i64 j, .int .i64 k]), (Value.agg #[.int .u16 m0, .int .u16 m1, .int .u32 m2, .int .u32 m3, .int .u8 m4, .int .u8 m5, .int .u8 m6, .int .u16 m7, .int .u16 m8, .int .u16 m9]), .int .i64 u] w (CPost w (askedv ⟨a, b, c, d, e, f, g, h, i, j, k⟩ ⟨m0, m1, m2, m3, m4, m5, m6, m7, m8, m9⟩ u)) := by
  have hr : askedv ⟨a, b, c, d, e, f, g, h, i, j, k⟩ ⟨m0, m1, m2, m3, m4, m5, m6, m7, m8, m9⟩ u = (⟨4, b, c, m3, e, (m2 + 1) % 4294967296, 2, (settle b m5).2, i, startv (shake u), k⟩, [(hd e ((m2 + 1) % 4294967296) 16 (shake u))]) := by simp [askedv, h16, h4, h18, he, hm]
  rw [hr]; clear hr
  have be : (m3 == e) = true := by simpa using he
  clear he
  go_enter Try.func34, Try.ntmps34
  go_wp2_with (first | (go_at_call 38; refine (has_calls _ _ _ _ _ _ _ _ _ _ _ _).mono ?_; rintro e w' ⟨rfl, rfl⟩))
  go_region
  go_wp2_with (first | (go_at_call 41; refine (Settle_calls _ _ _).mono ?_; rintro e w' ⟨rfl, rfl⟩) | (go_at_call 25; refine (ack_calls _ _ _ _ _ _ _ _ _ _ _ _).mono ?_; rintro e w' ⟨rfl, rfl⟩) | (go_at_call 31; refine (Shake_calls _ _).mono ?_; rintro e w' ⟨rfl, rfl⟩) | (go_at_call 42; refine (Start_calls _ _).mono ?_; rintro e w' ⟨rfl, rfl⟩))
  go_region_held3 (fun W => W.cell? ⟨w.heap.size, 0, none⟩ = some (.int .i64 4) ∧ W.cell? ⟨w.heap.size, 1, none⟩ = some (.int .i64 b) ∧ W.cell? ⟨w.heap.size, 2, none⟩ = some (.int .u32 c) ∧ W.cell? ⟨w.heap.size, 3, none⟩ = some (.int .u32 m3) ∧ W.cell? ⟨w.heap.size, 4, none⟩ = some (.int .u32 e) ∧ W.cell? ⟨w.heap.size, 5, none⟩ = some (.int .u32 ((m2 + 1) % 4294967296)) ∧ W.cell? ⟨w.heap.size, 6, none⟩ = some (.int .i64 2) ∧ W.cell? ⟨w.heap.size, 7, none⟩ = some (.int .i64 ((settle b m5).2)) ∧ W.cell? ⟨w.heap.size, 8, none⟩ = some (.int .u8 i) ∧ W.cell? ⟨w.heap.size, 9, none⟩ = some (.int .i64 (startv (shake u))) ∧ W.cell? ⟨w.heap.size, 10, none⟩ = some (.int .i64 k) ∧ W.cell? ⟨w.heap.size + 1 + 1 + 1 + 1 + 1 + 1 + 1 + 1 + 1 + 1, 0, none⟩ = some (.int .u16 0) ∧ W.cell? ⟨w.heap.size + 1 + 1 + 1 + 1 + 1 + 1 + 1 + 1 + 1 + 1, 1, none⟩ = some (.int .u16 0) ∧ W.cell? ⟨w.heap.size + 1 + 1 + 1 + 1 + 1 + 1 + 1 + 1 + 1 + 1, 2, none⟩ = some (.int .u32 e) ∧ W.cell? ⟨w.heap.size + 1 + 1 + 1 + 1 + 1 + 1 + 1 + 1 + 1 + 1, 3, none⟩ = some (.int .u32 ((m2 + 1) % 4294967296)) ∧ W.cell? ⟨w.heap.size + 1 + 1 + 1 + 1 + 1 + 1 + 1 + 1 + 1 + 1, 4, none⟩ = some (.int .u8 5) ∧ W.cell? ⟨w.heap.size + 1 + 1 + 1 + 1 + 1 + 1 + 1 + 1 + 1 + 1, 5, none⟩ = some (.int .u8 (shake u)) ∧ W.cell? ⟨w.heap.size + 1 + 1 + 1 + 1 + 1 + 1 + 1 + 1 + 1 + 1, 6, none⟩ = some (.int .u8 16) ∧ W.cell? ⟨w.heap.size + 1 + 1 + 1 + 1 + 1 + 1 + 1 + 1 + 1 + 1, 7, none⟩ = some (.int .u16 0) ∧ W.cell? ⟨w.heap.size + 1 + 1 + 1 + 1 + 1 + 1 + 1 + 1 + 1 + 1, 8, none⟩ = some (.int .u16 0) ∧ W.cell? ⟨w.heap.size + 1 + 1 + 1 + 1 + 1 + 1 + 1 + 1 + 1 + 1, 9, none⟩ = some (.int .u16 0)) (((repeat' apply And.intro); all_goals (go_simp; done))) (first | (go_at_call 26; refine (say_calls _ _ _ _).mono ?_; rintro e w' ⟨rfl, rfl⟩))
  go_wp2
  refine bodyPost_ret (v := .tuple #[(Value.agg #[.int .i64 4, .int .i64 b, .int .u32 c, .int .u32 m3, .int .u32 e, .int .u32 ((m2 + 1) % 4294967296), .int .i64 2, .int .i64 ((settle b m5).2), .int .u8 i, .int .i64 (startv (shake u)), .int .i64 k]), .slice (some ⟨w.heap.size + 1 + 1 + 1 + 1 + 1 + 1 + 1 + 1 + 1 + 1 + 1 + 1 + 1 + 1 + 1, 0, none⟩) 1 1]) (by simp [results, Try.results34, go_sem]) rfl ⟨_, rfl, Segs.one (hd e ((m2 + 1) % 4294967296) 16 (shake u)) (by first | (simp; done) | (simp; omega) | omega) (by repeat (first | exact heap_new (by simp) | refine heap_alloc ?_ _ | refine heap_drew ?_)), (by repeat (first | exact Below.refl _ _ | refine Below.drew ?_ | refine below_drewN ?_ _ | refine Below.alloc ?_ (by first | (simp; done) | (simp; omega)) _))⟩

theorem asked_calls (a b c d e f g h i j k m0 m1 m2 m3 m4 m5 m6 m7 m8 m9 u : Int) (w : World) : Calls Try.prog 34 #[(Value.agg #[.int .i64 a, .int .i64 b, .int .u32 c, .int .u32 d, .int .u32 e, .int .u32 f, .int .i64 g, .int .i64 h, .int .u8 i, .int .i64 j, .int .i64 k]), (Value.agg #[.int .u16 m0, .int .u16 m1, .int .u32 m2, .int .u32 m3, .int .u8 m4, .int .u8 m5, .int .u8 m6, .int .u16 m7, .int .u16 m8, .int .u16 m9]), .int .i64 u] w (CPost w (askedv ⟨a, b, c, d, e, f, g, h, i, j, k⟩ ⟨m0, m1, m2, m3, m4, m5, m6, m7, m8, m9⟩ u)) := by
  cases h16 : has m6 16
  · cases h4 : has m6 4
    · cases h18 : has m6 18
      · exact asked_no_a (a := a) (b := b) (c := c) (d := d) (e := e) (f := f) (g := g) (h := h) (i := i) (j := j) (k := k) (m0 := m0) (m1 := m1) (m2 := m2) (m3 := m3) (m4 := m4) (m5 := m5) (m6 := m6) (m7 := m7) (m8 := m8) (m9 := m9) (u := u) h16 h4 h18 w
      · exact asked_wrong_a (a := a) (b := b) (c := c) (d := d) (e := e) (f := f) (g := g) (h := h) (i := i) (j := j) (k := k) (m0 := m0) (m1 := m1) (m2 := m2) (m3 := m3) (m4 := m4) (m5 := m5) (m6 := m6) (m7 := m7) (m8 := m8) (m9 := m9) (u := u) h16 h4 h18 w
    · exact asked_rst_a (a := a) (b := b) (c := c) (d := d) (e := e) (f := f) (g := g) (h := h) (i := i) (j := j) (k := k) (m0 := m0) (m1 := m1) (m2 := m2) (m3 := m3) (m4 := m4) (m5 := m5) (m6 := m6) (m7 := m7) (m8 := m8) (m9 := m9) (u := u) h16 h4 w
  · by_cases he : m3 = e
    · cases h4 : has m6 4
      · cases h18 : has m6 18
        · exact asked_no_c (a := a) (b := b) (c := c) (d := d) (e := e) (f := f) (g := g) (h := h) (i := i) (j := j) (k := k) (m0 := m0) (m1 := m1) (m2 := m2) (m3 := m3) (m4 := m4) (m5 := m5) (m6 := m6) (m7 := m7) (m8 := m8) (m9 := m9) (u := u) h16 h4 h18 he w
        · by_cases hm : (settle b m5).1 = 2
          · exact asked_open_y (a := a) (b := b) (c := c) (d := d) (e := e) (f := f) (g := g) (h := h) (i := i) (j := j) (k := k) (m0 := m0) (m1 := m1) (m2 := m2) (m3 := m3) (m4 := m4) (m5 := m5) (m6 := m6) (m7 := m7) (m8 := m8) (m9 := m9) (u := u) h16 h4 h18 he hm w
          · exact asked_open_n (a := a) (b := b) (c := c) (d := d) (e := e) (f := f) (g := g) (h := h) (i := i) (j := j) (k := k) (m0 := m0) (m1 := m1) (m2 := m2) (m3 := m3) (m4 := m4) (m5 := m5) (m6 := m6) (m7 := m7) (m8 := m8) (m9 := m9) (u := u) h16 h4 h18 he hm w
      · exact asked_rst_c (a := a) (b := b) (c := c) (d := d) (e := e) (f := f) (g := g) (h := h) (i := i) (j := j) (k := k) (m0 := m0) (m1 := m1) (m2 := m2) (m3 := m3) (m4 := m4) (m5 := m5) (m6 := m6) (m7 := m7) (m8 := m8) (m9 := m9) (u := u) h16 h4 he w
    · cases h4 : has m6 4
      · cases h18 : has m6 18
        · exact asked_no_b (a := a) (b := b) (c := c) (d := d) (e := e) (f := f) (g := g) (h := h) (i := i) (j := j) (k := k) (m0 := m0) (m1 := m1) (m2 := m2) (m3 := m3) (m4 := m4) (m5 := m5) (m6 := m6) (m7 := m7) (m8 := m8) (m9 := m9) (u := u) h16 h4 h18 he w
        · exact asked_wrong_b (a := a) (b := b) (c := c) (d := d) (e := e) (f := f) (g := g) (h := h) (i := i) (j := j) (k := k) (m0 := m0) (m1 := m1) (m2 := m2) (m3 := m3) (m4 := m4) (m5 := m5) (m6 := m6) (m7 := m7) (m8 := m8) (m9 := m9) (u := u) h16 h4 h18 he w
      · exact asked_rst_b (a := a) (b := b) (c := c) (d := d) (e := e) (f := f) (g := g) (h := h) (i := i) (j := j) (k := k) (m0 := m0) (m1 := m1) (m2 := m2) (m3 := m3) (m4 := m4) (m5 := m5) (m6 := m6) (m7 := m7) (m8 := m8) (m9 := m9) (u := u) h16 h4 he w
end Go.Proofs.Ytbklomnlhpbhnaa
