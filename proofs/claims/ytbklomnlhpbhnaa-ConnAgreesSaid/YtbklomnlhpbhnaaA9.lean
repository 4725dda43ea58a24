import Derived.Test.YtbklomnlhpbhnaaA6
import Derived.Lib.Hide
import Derived.LoopN
import Derived.BigRegion
namespace Go.Proofs.Ytbklomnlhpbhnaa
open Go.RowKit

/-- A segment in place, behind the first ones: what was told is there. -/
def tailv (x : C) (m : H) : C × List H :=
  if x.st = 3 then (if x.una ≠ x.nxt then (x, []) else if has m.flags 1 = true then finv (openedv x m.ace) else (openedv x m.ace, []))
  else if x.una = x.nxt then (if has m.flags 1 = true then finv ⟨heardv x.st, x.want, x.iss, x.una, x.nxt, x.rcv, x.mode, x.code, x.reply, x.start, x.tries⟩ else (⟨heardv x.st, x.want, x.iss, x.una, x.nxt, x.rcv, x.mode, x.code, x.reply, x.start, x.tries⟩, []))
  else if has m.flags 1 = true then finv x else (x, [])
def othersv (x : C) (m : H) : C × List H :=
  if has m.flags 4 = true then (if m.seq = x.rcv then (⟨0, x.want, x.iss, x.una, x.nxt, x.rcv, x.mode, x.code, x.reply, x.start, x.tries⟩, []) else (x, []))
  else if has m.flags 2 = true then (if x.st = 3 ∧ has m.flags 16 = false ∧ m.seq = (x.rcv - 1) % 4294967296 then (x, [hd x.iss x.rcv 18 x.reply]) else (x, [hd x.nxt x.rcv 16 0]))
  else if m.seq ≠ x.rcv then (x, [hd x.nxt x.rcv 16 0])
  else if has m.flags 16 = false then (x, [])
  else if newer m.ack x.nxt = true then (x, [hd x.nxt x.rcv 16 0])
  else if newer m.ack x.una = true then tailv ⟨x.st, x.want, x.iss, m.ack, x.nxt, x.rcv, x.mode, x.code, x.reply, x.start, x.tries⟩ m
  else tailv x m
set_option maxHeartbeats 1000000 in
theorem others_rst_y (a b c d e f g h i j k m0 m1 m2 m3 m4 m5 m6 m7 m8 m9 : Int) (h4 : has m6 4 = true) (hs : m2 = f) (w : World) : Calls Try.prog 35 #[(Value.agg #[.int .i64 a, .int .i64 b, .int .u32 c, .int .u32 d, .int .u32 e, .int .u32 f, .int .i64 g, .int .i64 h, .int .u8 i, .int .i64 j, .int .i64 k]), (Value.agg #[.int .u16 m0, .int .u16 m1, .int .u32 m2, .int .u32 m3, .int .u8 m4, .int .u8 m5, .int .u8 m6, .int .u16 m7, .int .u16 m8, .int .u16 m9])] w (CPost w (othersv ⟨a, b, c, d, e, f, g, h, i, j, k⟩ ⟨m0, m1, m2, m3, m4, m5, m6, m7, m8, m9⟩)) := by
  have hr : othersv ⟨a, b, c, d, e, f, g, h, i, j, k⟩ ⟨m0, m1, m2, m3, m4, m5, m6, m7, m8, m9⟩ = (⟨0, b, c, d, e, f, g, h, i, j, k⟩, []) := by simp [othersv, *]
  rw [hr]; clear hr
  have bhs : (m2 == f) = true := by simpa using hs
  have nhs : (m2 != f) = false := by simpa using hs
  clear hs
  go_enter Try.func35, Try.ntmps35
  go_wp2_with (first | (go_at_call 38; refine (has_calls _ _ _ _ _ _ _ _ _ _ _ _).mono ?_; rintro e w' ⟨rfl, rfl⟩))
  refine bodyPost_ret (v := .tuple #[(Value.agg #[.int .i64 0, .int .i64 b, .int .u32 c, .int .u32 d, .int .u32 e, .int .u32 f, .int .i64 g, .int .i64 h, .int .u8 i, .int .i64 j, .int .i64 k]), .slice none 0 0]) (by simp [results, Try.results35, go_sem]) rfl ⟨_, rfl, Segs.nil _ _, (by repeat (first | exact Below.refl _ _ | refine Below.drew ?_ | refine below_drewN ?_ _ | refine Below.alloc ?_ (by first | (simp; done) | (simp; omega)) _))⟩

set_option maxHeartbeats 1000000 in
theorem others_rst_n (a b c d e f g h i j k m0 m1 m2 m3 m4 m5 m6 m7 m8 m9 : Int) (h4 : has m6 4 = true) (hs : ¬ m2 = f) (w : World) : Calls Try.prog 35 #[(Value.agg #[.int .i64 a, .int .i64 b, .int .u32 c, .int .u32 d, .int .u32 e, .int .u32 f, .int .i64 g, .int .i64 h, .int .u8 i, .int .i64 j, .int .i64 k]), (Value.agg #[.int .u16 m0, .int .u16 m1, .int .u32 m2, .int .u32 m3, .int .u8 m4, .int .u8 m5, .int .u8 m6, .int .u16 m7, .int .u16 m8, .int .u16 m9])] w (CPost w (othersv ⟨a, b, c, d, e, f, g, h, i, j, k⟩ ⟨m0, m1, m2, m3, m4, m5, m6, m7, m8, m9⟩)) := by
  have hr : othersv ⟨a, b, c, d, e, f, g, h, i, j, k⟩ ⟨m0, m1, m2, m3, m4, m5, m6, m7, m8, m9⟩ = (⟨a, b, c, d, e, f, g, h, i, j, k⟩, []) := by simp [othersv, *]
  rw [hr]; clear hr
  have bhs : (m2 == f) = false := by simpa using hs
  have nhs : (m2 != f) = true := by simpa using hs
  clear hs
  go_enter Try.func35, Try.ntmps35
  go_wp2_with (first | (go_at_call 38; refine (has_calls _ _ _ _ _ _ _ _ _ _ _ _).mono ?_; rintro e w' ⟨rfl, rfl⟩))
  refine bodyPost_ret (v := .tuple #[(Value.agg #[.int .i64 a, .int .i64 b, .int .u32 c, .int .u32 d, .int .u32 e, .int .u32 f, .int .i64 g, .int .i64 h, .int .u8 i, .int .i64 j, .int .i64 k]), .slice none 0 0]) (by simp [results, Try.results35, go_sem]) rfl ⟨_, rfl, Segs.nil _ _, (by repeat (first | exact Below.refl _ _ | refine Below.drew ?_ | refine below_drewN ?_ _ | refine Below.alloc ?_ (by first | (simp; done) | (simp; omega)) _))⟩

set_option maxHeartbeats 1000000 in
theorem others_syn_a (b c d e f g h i j k m0 m1 m2 m3 m4 m5 m6 m7 m8 m9 : Int) (h4 : has m6 4 = false) (h2 : has m6 2 = true) (h16 : has m6 16 = false) (hs : m2 = (f - 1) % 4294967296) (w : World) : Calls Try.prog 35 #[(Value.agg #[.int .i64 3, .int .i64 b, .int .u32 c, .int .u32 d, .int .u32 e, .int .u32 f, .int .i64 g, .int .i64 h, .int .u8 i, .int .i64 j, .int .i64 k]), (Value.agg #[.int .u16 m0, .int .u16 m1, .int .u32 m2, .int .u32 m3, .int .u8 m4, .int .u8 m5, .int .u8 m6, .int .u16 m7, .int .u16 m8, .int .u16 m9])] w (CPost w (othersv ⟨3, b, c, d, e, f, g, h, i, j, k⟩ ⟨m0, m1, m2, m3, m4, m5, m6, m7, m8, m9⟩)) := by
  have hr : othersv ⟨3, b, c, d, e, f, g, h, i, j, k⟩ ⟨m0, m1, m2, m3, m4, m5, m6, m7, m8, m9⟩ = (⟨3, b, c, d, e, f, g, h, i, j, k⟩, [(hd c f 18 i)]) := by simp [othersv, *]
  rw [hr]; clear hr
  have bhs : (m2 == (f - 1) % 4294967296) = true := by simpa using hs
  have nhs : (m2 != (f - 1) % 4294967296) = false := by simpa using hs
  clear hs
  go_enter Try.func35, Try.ntmps35
  go_wp2_with (first | (go_at_call 38; refine (has_calls _ _ _ _ _ _ _ _ _ _ _ _).mono ?_; rintro e w' ⟨rfl, rfl⟩))
  go_region_held3 (fun W => W.cell? ⟨w.heap.size, 0, none⟩ = some (.int .i64 3) ∧ W.cell? ⟨w.heap.size, 1, none⟩ = some (.int .i64 b) ∧ W.cell? ⟨w.heap.size, 2, none⟩ = some (.int .u32 c) ∧ W.cell? ⟨w.heap.size, 3, none⟩ = some (.int .u32 d) ∧ W.cell? ⟨w.heap.size, 4, none⟩ = some (.int .u32 e) ∧ W.cell? ⟨w.heap.size, 5, none⟩ = some (.int .u32 f) ∧ W.cell? ⟨w.heap.size, 6, none⟩ = some (.int .i64 g) ∧ W.cell? ⟨w.heap.size, 7, none⟩ = some (.int .i64 h) ∧ W.cell? ⟨w.heap.size, 8, none⟩ = some (.int .u8 i) ∧ W.cell? ⟨w.heap.size, 9, none⟩ = some (.int .i64 j) ∧ W.cell? ⟨w.heap.size, 10, none⟩ = some (.int .i64 k)) (((repeat' apply And.intro); all_goals (go_simp; done))) (first | (go_at_call 24; refine (answer_calls _ _ _ _ _ _ _ _ _ _ _ _).mono ?_; rintro e w' ⟨rfl, rfl⟩) | (go_at_call 26; refine (say_calls _ _ _ _).mono ?_; rintro e w' ⟨rfl, rfl⟩))
  go_wp2
  refine bodyPost_ret (v := .tuple #[(Value.agg #[.int .i64 3, .int .i64 b, .int .u32 c, .int .u32 d, .int .u32 e, .int .u32 f, .int .i64 g, .int .i64 h, .int .u8 i, .int .i64 j, .int .i64 k]), .slice (some ⟨w.heap.size + 1 + 1 + 1 + 1 + 1 + 1 + 1 + 1, 0, none⟩) 1 1]) (by simp [results, Try.results35, go_sem]) rfl ⟨_, rfl, Segs.one (hd c f 18 i) (by first | (simp; done) | (simp; omega) | omega) (by repeat (first | exact heap_new (by simp) | refine heap_alloc ?_ _ | refine heap_drew ?_)), (by repeat (first | exact Below.refl _ _ | refine Below.drew ?_ | refine below_drewN ?_ _ | refine Below.alloc ?_ (by first | (simp; done) | (simp; omega)) _))⟩

set_option maxHeartbeats 1000000 in
theorem others_syn_b (b c d e f g h i j k m0 m1 m2 m3 m4 m5 m6 m7 m8 m9 : Int) (h4 : has m6 4 = false) (h2 : has m6 2 = true) (h16 : has m6 16 = false) (hs : ¬ m2 = (f - 1) % 4294967296) (w : World) : Calls Try.prog 35 #[(Value.agg #[.int .i64 3, .int .i64 b, .int .u32 c, .int .u32 d, .int .u32 e, .int .u32 f, .int .i64 g, .int .i64 h, .int .u8 i, .int .i64 j, .int .i64 k]), (Value.agg #[.int .u16 m0, .int .u16 m1, .int .u32 m2, .int .u32 m3, .int .u8 m4, .int .u8 m5, .int .u8 m6, .int .u16 m7, .int .u16 m8, .int .u16 m9])] w (CPost w (othersv ⟨3, b, c, d, e, f, g, h, i, j, k⟩ ⟨m0, m1, m2, m3, m4, m5, m6, m7, m8, m9⟩)) := by
  have hr : othersv ⟨3, b, c, d, e, f, g, h, i, j, k⟩ ⟨m0, m1, m2, m3, m4, m5, m6, m7, m8, m9⟩ = (⟨3, b, c, d, e, f, g, h, i, j, k⟩, [(hd e f 16 0)]) := by simp [othersv, *]
  rw [hr]; clear hr
  have bhs : (m2 == (f - 1) % 4294967296) = false := by simpa using hs
  have nhs : (m2 != (f - 1) % 4294967296) = true := by simpa using hs
  clear hs
  go_enter Try.func35, Try.ntmps35
  go_wp2_with (first | (go_at_call 38; refine (has_calls _ _ _ _ _ _ _ _ _ _ _ _).mono ?_; rintro e w' ⟨rfl, rfl⟩))
  go_region_held3 (fun W => W.cell? ⟨w.heap.size, 0, none⟩ = some (.int .i64 3) ∧ W.cell? ⟨w.heap.size, 1, none⟩ = some (.int .i64 b) ∧ W.cell? ⟨w.heap.size, 2, none⟩ = some (.int .u32 c) ∧ W.cell? ⟨w.heap.size, 3, none⟩ = some (.int .u32 d) ∧ W.cell? ⟨w.heap.size, 4, none⟩ = some (.int .u32 e) ∧ W.cell? ⟨w.heap.size, 5, none⟩ = some (.int .u32 f) ∧ W.cell? ⟨w.heap.size, 6, none⟩ = some (.int .i64 g) ∧ W.cell? ⟨w.heap.size, 7, none⟩ = some (.int .i64 h) ∧ W.cell? ⟨w.heap.size, 8, none⟩ = some (.int .u8 i) ∧ W.cell? ⟨w.heap.size, 9, none⟩ = some (.int .i64 j) ∧ W.cell? ⟨w.heap.size, 10, none⟩ = some (.int .i64 k)) (((repeat' apply And.intro); all_goals (go_simp; done))) (first | (go_at_call 25; refine (ack_calls _ _ _ _ _ _ _ _ _ _ _ _).mono ?_; rintro e w' ⟨rfl, rfl⟩) | (go_at_call 26; refine (say_calls _ _ _ _).mono ?_; rintro e w' ⟨rfl, rfl⟩))
  go_wp2
  refine bodyPost_ret (v := .tuple #[(Value.agg #[.int .i64 3, .int .i64 b, .int .u32 c, .int .u32 d, .int .u32 e, .int .u32 f, .int .i64 g, .int .i64 h, .int .u8 i, .int .i64 j, .int .i64 k]), .slice (some ⟨w.heap.size + 1 + 1 + 1 + 1 + 1 + 1 + 1 + 1, 0, none⟩) 1 1]) (by simp [results, Try.results35, go_sem]) rfl ⟨_, rfl, Segs.one (hd e f 16 0) (by first | (simp; done) | (simp; omega) | omega) (by repeat (first | exact heap_new (by simp) | refine heap_alloc ?_ _ | refine heap_drew ?_)), (by repeat (first | exact Below.refl _ _ | refine Below.drew ?_ | refine below_drewN ?_ _ | refine Below.alloc ?_ (by first | (simp; done) | (simp; omega)) _))⟩

set_option maxHeartbeats 1000000 in
theorem others_syn_c (b c d e f g h i j k m0 m1 m2 m3 m4 m5 m6 m7 m8 m9 : Int) (h4 : has m6 4 = false) (h2 : has m6 2 = true) (h16 : has m6 16 = true) (w : World) : Calls Try.prog 35 #[(Value.agg #[.int .i64 3, .int .i64 b, .int .u32 c, .int .u32 d, .int .u32 e, .int .u32 f, .int .i64 g, .int .i64 h, .int .u8 i, .int .i64 j, .int .i64 k]), (Value.agg #[.int .u16 m0, .int .u16 m1, .int .u32 m2, .int .u32 m3, .int .u8 m4, .int .u8 m5, .int .u8 m6, .int .u16 m7, .int .u16 m8, .int .u16 m9])] w (CPost w (othersv ⟨3, b, c, d, e, f, g, h, i, j, k⟩ ⟨m0, m1, m2, m3, m4, m5, m6, m7, m8, m9⟩)) := by
  have hr : othersv ⟨3, b, c, d, e, f, g, h, i, j, k⟩ ⟨m0, m1, m2, m3, m4, m5, m6, m7, m8, m9⟩ = (⟨3, b, c, d, e, f, g, h, i, j, k⟩, [(hd e f 16 0)]) := by simp [othersv, *]
  rw [hr]; clear hr
  go_enter Try.func35, Try.ntmps35
  go_wp2_with (first | (go_at_call 38; refine (has_calls _ _ _ _ _ _ _ _ _ _ _ _).mono ?_; rintro e w' ⟨rfl, rfl⟩))
  go_region_held3 (fun W => W.cell? ⟨w.heap.size, 0, none⟩ = some (.int .i64 3) ∧ W.cell? ⟨w.heap.size, 1, none⟩ = some (.int .i64 b) ∧ W.cell? ⟨w.heap.size, 2, none⟩ = some (.int .u32 c) ∧ W.cell? ⟨w.heap.size, 3, none⟩ = some (.int .u32 d) ∧ W.cell? ⟨w.heap.size, 4, none⟩ = some (.int .u32 e) ∧ W.cell? ⟨w.heap.size, 5, none⟩ = some (.int .u32 f) ∧ W.cell? ⟨w.heap.size, 6, none⟩ = some (.int .i64 g) ∧ W.cell? ⟨w.heap.size, 7, none⟩ = some (.int .i64 h) ∧ W.cell? ⟨w.heap.size, 8, none⟩ = some (.int .u8 i) ∧ W.cell? ⟨w.heap.size, 9, none⟩ = some (.int .i64 j) ∧ W.cell? ⟨w.heap.size, 10, none⟩ = some (.int .i64 k)) (((repeat' apply And.intro); all_goals (go_simp; done))) (first | (go_at_call 25; refine (ack_calls _ _ _ _ _ _ _ _ _ _ _ _).mono ?_; rintro e w' ⟨rfl, rfl⟩) | (go_at_call 26; refine (say_calls _ _ _ _).mono ?_; rintro e w' ⟨rfl, rfl⟩))
  go_wp2
  refine bodyPost_ret (v := .tuple #[(Value.agg #[.int .i64 3, .int .i64 b, .int .u32 c, .int .u32 d, .int .u32 e, .int .u32 f, .int .i64 g, .int .i64 h, .int .u8 i, .int .i64 j, .int .i64 k]), .slice (some ⟨w.heap.size + 1 + 1 + 1 + 1 + 1 + 1 + 1 + 1, 0, none⟩) 1 1]) (by simp [results, Try.results35, go_sem]) rfl ⟨_, rfl, Segs.one (hd e f 16 0) (by first | (simp; done) | (simp; omega) | omega) (by repeat (first | exact heap_new (by simp) | refine heap_alloc ?_ _ | refine heap_drew ?_)), (by repeat (first | exact Below.refl _ _ | refine Below.drew ?_ | refine below_drewN ?_ _ | refine Below.alloc ?_ (by first | (simp; done) | (simp; omega)) _))⟩

set_option maxHeartbeats 1000000 in
theorem others_syn_d (a b c d e f g h i j k m0 m1 m2 m3 m4 m5 m6 m7 m8 m9 : Int) (h4 : has m6 4 = false) (h2 : has m6 2 = true) (h3 : ¬ a = 3) (w : World) : Calls Try.prog 35 #[(Value.agg #[.int .i64 a, .int .i64 b, .int .u32 c, .int .u32 d, .int .u32 e, .int .u32 f, .int .i64 g, .int .i64 h, .int .u8 i, .int .i64 j, .int .i64 k]), (Value.agg #[.int .u16 m0, .int .u16 m1, .int .u32 m2, .int .u32 m3, .int .u8 m4, .int .u8 m5, .int .u8 m6, .int .u16 m7, .int .u16 m8, .int .u16 m9])] w (CPost w (othersv ⟨a, b, c, d, e, f, g, h, i, j, k⟩ ⟨m0, m1, m2, m3, m4, m5, m6, m7, m8, m9⟩)) := by
  have hr : othersv ⟨a, b, c, d, e, f, g, h, i, j, k⟩ ⟨m0, m1, m2, m3, m4, m5, m6, m7, m8, m9⟩ = (⟨a, b, c, d, e, f, g, h, i, j, k⟩, [(hd e f 16 0)]) := by simp [othersv, *]
  rw [hr]; clear hr
  have bh3 : (a == 3) = false := by simpa using h3
  have nh3 : (a != 3) = true := by simpa using h3
  clear h3
  go_enter Try.func35, Try.ntmps35
  go_wp2_with (first | (go_at_call 38; refine (has_calls _ _ _ _ _ _ _ _ _ _ _ _).mono ?_; rintro e w' ⟨rfl, rfl⟩))
  go_region_held3 (fun W => W.cell? ⟨w.heap.size, 0, none⟩ = some (.int .i64 a) ∧ W.cell? ⟨w.heap.size, 1, none⟩ = some (.int .i64 b) ∧ W.cell? ⟨w.heap.size, 2, none⟩ = some (.int .u32 c) ∧ W.cell? ⟨w.heap.size, 3, none⟩ = some (.int .u32 d) ∧ W.cell? ⟨w.heap.size, 4, none⟩ = some (.int .u32 e) ∧ W.cell? ⟨w.heap.size, 5, none⟩ = some (.int .u32 f) ∧ W.cell? ⟨w.heap.size, 6, none⟩ = some (.int .i64 g) ∧ W.cell? ⟨w.heap.size, 7, none⟩ = some (.int .i64 h) ∧ W.cell? ⟨w.heap.size, 8, none⟩ = some (.int .u8 i) ∧ W.cell? ⟨w.heap.size, 9, none⟩ = some (.int .i64 j) ∧ W.cell? ⟨w.heap.size, 10, none⟩ = some (.int .i64 k)) (((repeat' apply And.intro); all_goals (go_simp; done))) (first | (go_at_call 25; refine (ack_calls _ _ _ _ _ _ _ _ _ _ _ _).mono ?_; rintro e w' ⟨rfl, rfl⟩) | (go_at_call 26; refine (say_calls _ _ _ _).mono ?_; rintro e w' ⟨rfl, rfl⟩))
  go_wp2
  refine bodyPost_ret (v := .tuple #[(Value.agg #[.int .i64 a, .int .i64 b, .int .u32 c, .int .u32 d, .int .u32 e, .int .u32 f, .int .i64 g, .int .i64 h, .int .u8 i, .int .i64 j, .int .i64 k]), .slice (some ⟨w.heap.size + 1 + 1 + 1 + 1 + 1 + 1 + 1, 0, none⟩) 1 1]) (by simp [results, Try.results35, go_sem]) rfl ⟨_, rfl, Segs.one (hd e f 16 0) (by first | (simp; done) | (simp; omega) | omega) (by repeat (first | exact heap_new (by simp) | refine heap_alloc ?_ _ | refine heap_drew ?_)), (by repeat (first | exact Below.refl _ _ | refine Below.drew ?_ | refine below_drewN ?_ _ | refine Below.alloc ?_ (by first | (simp; done) | (simp; omega)) _))⟩

set_option maxHeartbeats 1000000 in
theorem others_seq (a b c d e f g h i j k m0 m1 m2 m3 m4 m5 m6 m7 m8 m9 : Int) (h4 : has m6 4 = false) (h2 : has m6 2 = false) (hs : ¬ m2 = f) (w : World) : Calls Try.prog 35 #[(Value.agg #[.int .i64 a, .int .i64 b, .int .u32 c, .int .u32 d, .int .u32 e, .int .u32 f, .int .i64 g, .int .i64 h, .int .u8 i, .int .i64 j, .int .i64 k]), (Value.agg #[.int .u16 m0, .int .u16 m1, .int .u32 m2, .int .u32 m3, .int .u8 m4, .int .u8 m5, .int .u8 m6, .int .u16 m7, .int .u16 m8, .int .u16 m9])] w (CPost w (othersv ⟨a, b, c, d, e, f, g, h, i, j, k⟩ ⟨m0, m1, m2, m3, m4, m5, m6, m7, m8, m9⟩)) := by
  have hr : othersv ⟨a, b, c, d, e, f, g, h, i, j, k⟩ ⟨m0, m1, m2, m3, m4, m5, m6, m7, m8, m9⟩ = (⟨a, b, c, d, e, f, g, h, i, j, k⟩, [(hd e f 16 0)]) := by simp [othersv, *]
  rw [hr]; clear hr
  have bhs : (m2 == f) = false := by simpa using hs
  have nhs : (m2 != f) = true := by simpa using hs
  clear hs
  go_enter Try.func35, Try.ntmps35
  go_wp2_with (first | (go_at_call 38; refine (has_calls _ _ _ _ _ _ _ _ _ _ _ _).mono ?_; rintro e w' ⟨rfl, rfl⟩))
  go_region_held3 (fun W => W.cell? ⟨w.heap.size, 0, none⟩ = some (.int .i64 a) ∧ W.cell? ⟨w.heap.size, 1, none⟩ = some (.int .i64 b) ∧ W.cell? ⟨w.heap.size, 2, none⟩ = some (.int .u32 c) ∧ W.cell? ⟨w.heap.size, 3, none⟩ = some (.int .u32 d) ∧ W.cell? ⟨w.heap.size, 4, none⟩ = some (.int .u32 e) ∧ W.cell? ⟨w.heap.size, 5, none⟩ = some (.int .u32 f) ∧ W.cell? ⟨w.heap.size, 6, none⟩ = some (.int .i64 g) ∧ W.cell? ⟨w.heap.size, 7, none⟩ = some (.int .i64 h) ∧ W.cell? ⟨w.heap.size, 8, none⟩ = some (.int .u8 i) ∧ W.cell? ⟨w.heap.size, 9, none⟩ = some (.int .i64 j) ∧ W.cell? ⟨w.heap.size, 10, none⟩ = some (.int .i64 k)) (((repeat' apply And.intro); all_goals (go_simp; done))) (first | (go_at_call 25; refine (ack_calls _ _ _ _ _ _ _ _ _ _ _ _).mono ?_; rintro e w' ⟨rfl, rfl⟩) | (go_at_call 26; refine (say_calls _ _ _ _).mono ?_; rintro e w' ⟨rfl, rfl⟩))
  go_wp2
  refine bodyPost_ret (v := .tuple #[(Value.agg #[.int .i64 a, .int .i64 b, .int .u32 c, .int .u32 d, .int .u32 e, .int .u32 f, .int .i64 g, .int .i64 h, .int .u8 i, .int .i64 j, .int .i64 k]), .slice (some ⟨w.heap.size + 1 + 1 + 1 + 1 + 1 + 1 + 1, 0, none⟩) 1 1]) (by simp [results, Try.results35, go_sem]) rfl ⟨_, rfl, Segs.one (hd e f 16 0) (by first | (simp; done) | (simp; omega) | omega) (by repeat (first | exact heap_new (by simp) | refine heap_alloc ?_ _ | refine heap_drew ?_)), (by repeat (first | exact Below.refl _ _ | refine Below.drew ?_ | refine below_drewN ?_ _ | refine Below.alloc ?_ (by first | (simp; done) | (simp; omega)) _))⟩

set_option maxHeartbeats 1000000 in
theorem others_na (a b c d e f g h i j k m0 m1 m2 m3 m4 m5 m6 m7 m8 m9 : Int) (h4 : has m6 4 = false) (h2 : has m6 2 = false) (h16 : has m6 16 = false) (hs : m2 = f) (w : World) : Calls Try.prog 35 #[(Value.agg #[.int .i64 a, .int .i64 b, .int .u32 c, .int .u32 d, .int .u32 e, .int .u32 f, .int .i64 g, .int .i64 h, .int .u8 i, .int .i64 j, .int .i64 k]), (Value.agg #[.int .u16 m0, .int .u16 m1, .int .u32 m2, .int .u32 m3, .int .u8 m4, .int .u8 m5, .int .u8 m6, .int .u16 m7, .int .u16 m8, .int .u16 m9])] w (CPost w (othersv ⟨a, b, c, d, e, f, g, h, i, j, k⟩ ⟨m0, m1, m2, m3, m4, m5, m6, m7, m8, m9⟩)) := by
  have hr : othersv ⟨a, b, c, d, e, f, g, h, i, j, k⟩ ⟨m0, m1, m2, m3, m4, m5, m6, m7, m8, m9⟩ = (⟨a, b, c, d, e, f, g, h, i, j, k⟩, []) := by simp [othersv, *]
  rw [hr]; clear hr
  have bhs : (m2 == f) = true := by simpa using hs
  have nhs : (m2 != f) = false := by simpa using hs
  clear hs
  go_enter Try.func35, Try.ntmps35
  go_wp2_with (first | (go_at_call 38; refine (has_calls _ _ _ _ _ _ _ _ _ _ _ _).mono ?_; rintro e w' ⟨rfl, rfl⟩))
  refine bodyPost_ret (v := .tuple #[(Value.agg #[.int .i64 a, .int .i64 b, .int .u32 c, .int .u32 d, .int .u32 e, .int .u32 f, .int .i64 g, .int .i64 h, .int .u8 i, .int .i64 j, .int .i64 k]), .slice none 0 0]) (by simp [results, Try.results35, go_sem]) rfl ⟨_, rfl, Segs.nil _ _, (by repeat (first | exact Below.refl _ _ | refine Below.drew ?_ | refine below_drewN ?_ _ | refine Below.alloc ?_ (by first | (simp; done) | (simp; omega)) _))⟩

set_option maxHeartbeats 1000000 in
theorem others_nx (a b c d e f g h i j k m0 m1 m2 m3 m4 m5 m6 m7 m8 m9 : Int) (h4 : has m6 4 = false) (h2 : has m6 2 = false) (h16 : has m6 16 = true) (hn : newer m3 e = true) (hs : m2 = f) (w : World) : Calls Try.prog 35 #[(Value.agg #[.int .i64 a, .int .i64 b, .int .u32 c, .int .u32 d, .int .u32 e, .int .u32 f, .int .i64 g, .int .i64 h, .int .u8 i, .int .i64 j, .int .i64 k]), (Value.agg #[.int .u16 m0, .int .u16 m1, .int .u32 m2, .int .u32 m3, .int .u8 m4, .int .u8 m5, .int .u8 m6, .int .u16 m7, .int .u16 m8, .int .u16 m9])] w (CPost w (othersv ⟨a, b, c, d, e, f, g, h, i, j, k⟩ ⟨m0, m1, m2, m3, m4, m5, m6, m7, m8, m9⟩)) := by
  have hr : othersv ⟨a, b, c, d, e, f, g, h, i, j, k⟩ ⟨m0, m1, m2, m3, m4, m5, m6, m7, m8, m9⟩ = (⟨a, b, c, d, e, f, g, h, i, j, k⟩, [(hd e f 16 0)]) := by simp [othersv, *]
  rw [hr]; clear hr
  have bhs : (m2 == f) = true := by simpa using hs
  have nhs : (m2 != f) = false := by simpa using hs
  clear hs
  go_enter Try.func35, Try.ntmps35
  go_wp2_with (first | (go_at_call 38; refine (has_calls _ _ _ _ _ _ _ _ _ _ _ _).mono ?_; rintro e w' ⟨rfl, rfl⟩) | (go_at_call 43; refine (newer_calls _ _ _).mono ?_; rintro e w' ⟨rfl, rfl⟩))
  go_region_held3 (fun W => W.cell? ⟨w.heap.size, 0, none⟩ = some (.int .i64 a) ∧ W.cell? ⟨w.heap.size, 1, none⟩ = some (.int .i64 b) ∧ W.cell? ⟨w.heap.size, 2, none⟩ = some (.int .u32 c) ∧ W.cell? ⟨w.heap.size, 3, none⟩ = some (.int .u32 d) ∧ W.cell? ⟨w.heap.size, 4, none⟩ = some (.int .u32 e) ∧ W.cell? ⟨w.heap.size, 5, none⟩ = some (.int .u32 f) ∧ W.cell? ⟨w.heap.size, 6, none⟩ = some (.int .i64 g) ∧ W.cell? ⟨w.heap.size, 7, none⟩ = some (.int .i64 h) ∧ W.cell? ⟨w.heap.size, 8, none⟩ = some (.int .u8 i) ∧ W.cell? ⟨w.heap.size, 9, none⟩ = some (.int .i64 j) ∧ W.cell? ⟨w.heap.size, 10, none⟩ = some (.int .i64 k)) (((repeat' apply And.intro); all_goals (go_simp; done))) (first | (go_at_call 25; refine (ack_calls _ _ _ _ _ _ _ _ _ _ _ _).mono ?_; rintro e w' ⟨rfl, rfl⟩) | (go_at_call 26; refine (say_calls _ _ _ _).mono ?_; rintro e w' ⟨rfl, rfl⟩))
  go_wp2
  refine bodyPost_ret (v := .tuple #[(Value.agg #[.int .i64 a, .int .i64 b, .int .u32 c, .int .u32 d, .int .u32 e, .int .u32 f, .int .i64 g, .int .i64 h, .int .u8 i, .int .i64 j, .int .i64 k]), .slice (some ⟨w.heap.size + 1 + 1 + 1 + 1 + 1 + 1 + 1 + 1, 0, none⟩) 1 1]) (by simp [results, Try.results35, go_sem]) rfl ⟨_, rfl, Segs.one (hd e f 16 0) (by first | (simp; done) | (simp; omega) | omega) (by repeat (first | exact heap_new (by simp) | refine heap_alloc ?_ _ | refine heap_drew ?_)), (by repeat (first | exact Below.refl _ _ | refine Below.drew ?_ | refine below_drewN ?_ _ | refine Below.alloc ?_ (by first | (simp; done) | (simp; omega)) _))⟩

end Go.Proofs.Ytbklomnlhpbhnaa
