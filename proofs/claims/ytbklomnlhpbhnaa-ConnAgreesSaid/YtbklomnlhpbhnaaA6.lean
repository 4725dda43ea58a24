import Derived.Test.YtbklomnlhpbhnaaA5
import Derived.Lib.Hide
import Derived.LoopN
import Derived.BigRegion
namespace Go.Proofs.Ytbklomnlhpbhnaa
open Go.RowKit

/-- The acknowledgement of an answer taken. -/
def openedv (x : C) (ace : Int) : C := if x.mode = 2 then { x with st := 4, start := startv ace } else { x with st := 4 }
set_option maxHeartbeats 800000 in
theorem opened_yes (a b c d e f h i j k m0 m1 m2 m3 m4 m5 m6 m7 m8 m9 : Int) (w : World) : Calls Try.prog 44 #[(Value.agg #[.int .i64 a, .int .i64 b, .int .u32 c, .int .u32 d, .int .u32 e, .int .u32 f, .int .i64 2, .int .i64 h, .int .u8 i, .int .i64 j, .int .i64 k]), (Value.agg #[.int .u16 m0, .int .u16 m1, .int .u32 m2, .int .u32 m3, .int .u8 m4, .int .u8 m5, .int .u8 m6, .int .u16 m7, .int .u16 m8, .int .u16 m9])] w fun e_ w' => e_ = .returned (Value.agg #[.int .i64 4, .int .i64 b, .int .u32 c, .int .u32 d, .int .u32 e, .int .u32 f, .int .i64 2, .int .i64 h, .int .u8 i, .int .i64 (startv m5), .int .i64 k]) ∧ w' = ((((w.alloc (Obj.cells #[.int .i64 4, .int .i64 b, .int .u32 c, .int .u32 d, .int .u32 e, .int .u32 f, .int .i64 2, .int .i64 h, .int .u8 i, .int .i64 (startv m5), .int .i64 k] 27)).alloc (Obj.cells #[.int .u16 m0, .int .u16 m1, .int .u32 m2, .int .u32 m3, .int .u8 m4, .int .u8 m5, .int .u8 m6, .int .u16 m7, .int .u16 m8, .int .u16 m9] 52)).alloc (Obj.cells #[.int .i64 4, .int .i64 b, .int .u32 c, .int .u32 d, .int .u32 e, .int .u32 f, .int .i64 2, .int .i64 h, .int .u8 i, .int .i64 (startv m5), .int .i64 k] 27)).alloc (Obj.cells #[.int .u8 2, .int .u8 3, .int .u8 4, .int .u8 6] 61)).alloc (Obj.cells #[.int .u8 2, .int .u8 3, .int .u8 4, .int .u8 6] 61) := by
  go_enter Try.func44, Try.ntmps44
  go_wp2_with (first | (go_at_call 42; refine (Start_calls _ _).mono ?_; rintro e w' ⟨rfl, rfl⟩))
  exact bodyPost_ret (v := (Value.agg #[.int .i64 4, .int .i64 b, .int .u32 c, .int .u32 d, .int .u32 e, .int .u32 f, .int .i64 2, .int .i64 h, .int .u8 i, .int .i64 (startv m5), .int .i64 k])) (by simp [results, Try.results44, go_sem]) rfl ⟨rfl, rfl⟩
set_option maxHeartbeats 800000 in
theorem opened_no (a b c d e f g h i j k m0 m1 m2 m3 m4 m5 m6 m7 m8 m9 : Int) (hg : ¬ g = 2) (w : World) : Calls Try.prog 44 #[(Value.agg #[.int .i64 a, .int .i64 b, .int .u32 c, .int .u32 d, .int .u32 e, .int .u32 f, .int .i64 g, .int .i64 h, .int .u8 i, .int .i64 j, .int .i64 k]), (Value.agg #[.int .u16 m0, .int .u16 m1, .int .u32 m2, .int .u32 m3, .int .u8 m4, .int .u8 m5, .int .u8 m6, .int .u16 m7, .int .u16 m8, .int .u16 m9])] w fun e_ w' => e_ = .returned (Value.agg #[.int .i64 4, .int .i64 b, .int .u32 c, .int .u32 d, .int .u32 e, .int .u32 f, .int .i64 g, .int .i64 h, .int .u8 i, .int .i64 j, .int .i64 k]) ∧ w' = ((w.alloc (Obj.cells #[.int .i64 4, .int .i64 b, .int .u32 c, .int .u32 d, .int .u32 e, .int .u32 f, .int .i64 g, .int .i64 h, .int .u8 i, .int .i64 j, .int .i64 k] 27)).alloc (Obj.cells #[.int .u16 m0, .int .u16 m1, .int .u32 m2, .int .u32 m3, .int .u8 m4, .int .u8 m5, .int .u8 m6, .int .u16 m7, .int .u16 m8, .int .u16 m9] 52)).alloc (Obj.cells #[.int .i64 4, .int .i64 b, .int .u32 c, .int .u32 d, .int .u32 e, .int .u32 f, .int .i64 g, .int .i64 h, .int .u8 i, .int .i64 j, .int .i64 k] 27) := by
  have b2 : (g == 2) = false := by simpa using hg
  go_enter Try.func44, Try.ntmps44
  go_wp2
  exact bodyPost_ret (v := (Value.agg #[.int .i64 4, .int .i64 b, .int .u32 c, .int .u32 d, .int .u32 e, .int .u32 f, .int .i64 g, .int .i64 h, .int .u8 i, .int .i64 j, .int .i64 k])) (by simp [results, Try.results44, go_sem]) rfl ⟨rfl, rfl⟩
/-- The other one's end taken. -/
def finv (x : C) : C × List H :=
  if x.st = 4 then (⟨9, x.want, x.iss, x.una, x.nxt, (x.rcv + 1) % 4294967296, x.mode, x.code, x.reply, x.start, x.tries⟩, [hd x.nxt ((x.rcv + 1) % 4294967296) 16 0])
  else if x.st = 5 then (⟨7, x.want, x.iss, x.una, x.nxt, (x.rcv + 1) % 4294967296, x.mode, x.code, x.reply, x.start, x.tries⟩, [hd x.nxt ((x.rcv + 1) % 4294967296) 16 0])
  else if x.st = 6 then (⟨8, x.want, x.iss, x.una, x.nxt, (x.rcv + 1) % 4294967296, x.mode, x.code, x.reply, x.start, x.tries⟩, [hd x.nxt ((x.rcv + 1) % 4294967296) 16 0])
  else if x.st = 7 ∨ x.st = 8 ∨ x.st = 9 ∨ x.st = 10 then (x, [hd x.nxt x.rcv 16 0])
  else (x, [])
set_option maxHeartbeats 1000000 in
theorem fin_4 (b c d e f g h i j k : Int)  (w : World) : Calls Try.prog 46 #[(Value.agg #[.int .i64 4, .int .i64 b, .int .u32 c, .int .u32 d, .int .u32 e, .int .u32 f, .int .i64 g, .int .i64 h, .int .u8 i, .int .i64 j, .int .i64 k])] w (CPost w (finv ⟨4, b, c, d, e, f, g, h, i, j, k⟩)) := by
  have hr : finv ⟨4, b, c, d, e, f, g, h, i, j, k⟩ = (⟨9, b, c, d, e, (f + 1) % 4294967296, g, h, i, j, k⟩, [(hd e ((f + 1) % 4294967296) 16 0)]) := by simp [finv, *]
  rw [hr]; clear hr
  go_enter Try.func46, Try.ntmps46
  go_wp2
  go_region_held3 (fun W => W.cell? ⟨w.heap.size, 0, none⟩ = some (.int .i64 9) ∧ W.cell? ⟨w.heap.size, 1, none⟩ = some (.int .i64 b) ∧ W.cell? ⟨w.heap.size, 2, none⟩ = some (.int .u32 c) ∧ W.cell? ⟨w.heap.size, 3, none⟩ = some (.int .u32 d) ∧ W.cell? ⟨w.heap.size, 4, none⟩ = some (.int .u32 e) ∧ W.cell? ⟨w.heap.size, 5, none⟩ = some (.int .u32 ((f + 1) % 4294967296)) ∧ W.cell? ⟨w.heap.size, 6, none⟩ = some (.int .i64 g) ∧ W.cell? ⟨w.heap.size, 7, none⟩ = some (.int .i64 h) ∧ W.cell? ⟨w.heap.size, 8, none⟩ = some (.int .u8 i) ∧ W.cell? ⟨w.heap.size, 9, none⟩ = some (.int .i64 j) ∧ W.cell? ⟨w.heap.size, 10, none⟩ = some (.int .i64 k)) (((repeat' apply And.intro); all_goals (go_simp; done))) (first | (go_at_call 25; refine (ack_calls _ _ _ _ _ _ _ _ _ _ _ _).mono ?_; rintro e w' ⟨rfl, rfl⟩) | (go_at_call 26; refine (say_calls _ _ _ _).mono ?_; rintro e w' ⟨rfl, rfl⟩))
  go_wp2
  refine bodyPost_ret (v := .tuple #[(Value.agg #[.int .i64 9, .int .i64 b, .int .u32 c, .int .u32 d, .int .u32 e, .int .u32 ((f + 1) % 4294967296), .int .i64 g, .int .i64 h, .int .u8 i, .int .i64 j, .int .i64 k]), .slice (some ⟨w.heap.size + 1 + 1 + 1 + 1, 0, none⟩) 1 1]) (by simp [results, Try.results46, go_sem]) rfl ⟨_, rfl, Segs.one (hd e ((f + 1) % 4294967296) 16 0) (by first | (simp; done) | (simp; omega) | omega) (by repeat (first | exact heap_new (by simp) | refine heap_alloc ?_ _ | refine heap_drew ?_)), (by repeat (first | exact Below.refl _ _ | refine Below.drew ?_ | refine below_drewN ?_ _ | refine Below.alloc ?_ (by first | (simp; done) | (simp; omega)) _))⟩

set_option maxHeartbeats 1000000 in
theorem fin_5 (b c d e f g h i j k : Int)  (w : World) : Calls Try.prog 46 #[(Value.agg #[.int .i64 5, .int .i64 b, .int .u32 c, .int .u32 d, .int .u32 e, .int .u32 f, .int .i64 g, .int .i64 h, .int .u8 i, .int .i64 j, .int .i64 k])] w (CPost w (finv ⟨5, b, c, d, e, f, g, h, i, j, k⟩)) := by
  have hr : finv ⟨5, b, c, d, e, f, g, h, i, j, k⟩ = (⟨7, b, c, d, e, (f + 1) % 4294967296, g, h, i, j, k⟩, [(hd e ((f + 1) % 4294967296) 16 0)]) := by simp [finv, *]
  rw [hr]; clear hr
  go_enter Try.func46, Try.ntmps46
  go_wp2
  go_region_held3 (fun W => W.cell? ⟨w.heap.size, 0, none⟩ = some (.int .i64 7) ∧ W.cell? ⟨w.heap.size, 1, none⟩ = some (.int .i64 b) ∧ W.cell? ⟨w.heap.size, 2, none⟩ = some (.int .u32 c) ∧ W.cell? ⟨w.heap.size, 3, none⟩ = some (.int .u32 d) ∧ W.cell? ⟨w.heap.size, 4, none⟩ = some (.int .u32 e) ∧ W.cell? ⟨w.heap.size, 5, none⟩ = some (.int .u32 ((f + 1) % 4294967296)) ∧ W.cell? ⟨w.heap.size, 6, none⟩ = some (.int .i64 g) ∧ W.cell? ⟨w.heap.size, 7, none⟩ = some (.int .i64 h) ∧ W.cell? ⟨w.heap.size, 8, none⟩ = some (.int .u8 i) ∧ W.cell? ⟨w.heap.size, 9, none⟩ = some (.int .i64 j) ∧ W.cell? ⟨w.heap.size, 10, none⟩ = some (.int .i64 k)) (((repeat' apply And.intro); all_goals (go_simp; done))) (first | (go_at_call 25; refine (ack_calls _ _ _ _ _ _ _ _ _ _ _ _).mono ?_; rintro e w' ⟨rfl, rfl⟩) | (go_at_call 26; refine (say_calls _ _ _ _).mono ?_; rintro e w' ⟨rfl, rfl⟩))
  go_wp2
  refine bodyPost_ret (v := .tuple #[(Value.agg #[.int .i64 7, .int .i64 b, .int .u32 c, .int .u32 d, .int .u32 e, .int .u32 ((f + 1) % 4294967296), .int .i64 g, .int .i64 h, .int .u8 i, .int .i64 j, .int .i64 k]), .slice (some ⟨w.heap.size + 1 + 1 + 1 + 1, 0, none⟩) 1 1]) (by simp [results, Try.results46, go_sem]) rfl ⟨_, rfl, Segs.one (hd e ((f + 1) % 4294967296) 16 0) (by first | (simp; done) | (simp; omega) | omega) (by repeat (first | exact heap_new (by simp) | refine heap_alloc ?_ _ | refine heap_drew ?_)), (by repeat (first | exact Below.refl _ _ | refine Below.drew ?_ | refine below_drewN ?_ _ | refine Below.alloc ?_ (by first | (simp; done) | (simp; omega)) _))⟩

set_option maxHeartbeats 1000000 in
theorem fin_6 (b c d e f g h i j k : Int)  (w : World) : Calls Try.prog 46 #[(Value.agg #[.int .i64 6, .int .i64 b, .int .u32 c, .int .u32 d, .int .u32 e, .int .u32 f, .int .i64 g, .int .i64 h, .int .u8 i, .int .i64 j, .int .i64 k])] w (CPost w (finv ⟨6, b, c, d, e, f, g, h, i, j, k⟩)) := by
  have hr : finv ⟨6, b, c, d, e, f, g, h, i, j, k⟩ = (⟨8, b, c, d, e, (f + 1) % 4294967296, g, h, i, j, k⟩, [(hd e ((f + 1) % 4294967296) 16 0)]) := by simp [finv, *]
  rw [hr]; clear hr
  go_enter Try.func46, Try.ntmps46
  go_wp2
  go_region_held3 (fun W => W.cell? ⟨w.heap.size, 0, none⟩ = some (.int .i64 8) ∧ W.cell? ⟨w.heap.size, 1, none⟩ = some (.int .i64 b) ∧ W.cell? ⟨w.heap.size, 2, none⟩ = some (.int .u32 c) ∧ W.cell? ⟨w.heap.size, 3, none⟩ = some (.int .u32 d) ∧ W.cell? ⟨w.heap.size, 4, none⟩ = some (.int .u32 e) ∧ W.cell? ⟨w.heap.size, 5, none⟩ = some (.int .u32 ((f + 1) % 4294967296)) ∧ W.cell? ⟨w.heap.size, 6, none⟩ = some (.int .i64 g) ∧ W.cell? ⟨w.heap.size, 7, none⟩ = some (.int .i64 h) ∧ W.cell? ⟨w.heap.size, 8, none⟩ = some (.int .u8 i) ∧ W.cell? ⟨w.heap.size, 9, none⟩ = some (.int .i64 j) ∧ W.cell? ⟨w.heap.size, 10, none⟩ = some (.int .i64 k)) (((repeat' apply And.intro); all_goals (go_simp; done))) (first | (go_at_call 25; refine (ack_calls _ _ _ _ _ _ _ _ _ _ _ _).mono ?_; rintro e w' ⟨rfl, rfl⟩) | (go_at_call 26; refine (say_calls _ _ _ _).mono ?_; rintro e w' ⟨rfl, rfl⟩))
  go_wp2
  refine bodyPost_ret (v := .tuple #[(Value.agg #[.int .i64 8, .int .i64 b, .int .u32 c, .int .u32 d, .int .u32 e, .int .u32 ((f + 1) % 4294967296), .int .i64 g, .int .i64 h, .int .u8 i, .int .i64 j, .int .i64 k]), .slice (some ⟨w.heap.size + 1 + 1 + 1 + 1, 0, none⟩) 1 1]) (by simp [results, Try.results46, go_sem]) rfl ⟨_, rfl, Segs.one (hd e ((f + 1) % 4294967296) 16 0) (by first | (simp; done) | (simp; omega) | omega) (by repeat (first | exact heap_new (by simp) | refine heap_alloc ?_ _ | refine heap_drew ?_)), (by repeat (first | exact Below.refl _ _ | refine Below.drew ?_ | refine below_drewN ?_ _ | refine Below.alloc ?_ (by first | (simp; done) | (simp; omega)) _))⟩

set_option maxHeartbeats 1000000 in
theorem fin_7 (b c d e f g h i j k : Int)  (w : World) : Calls Try.prog 46 #[(Value.agg #[.int .i64 7, .int .i64 b, .int .u32 c, .int .u32 d, .int .u32 e, .int .u32 f, .int .i64 g, .int .i64 h, .int .u8 i, .int .i64 j, .int .i64 k])] w (CPost w (finv ⟨7, b, c, d, e, f, g, h, i, j, k⟩)) := by
  have hr : finv ⟨7, b, c, d, e, f, g, h, i, j, k⟩ = (⟨7, b, c, d, e, f, g, h, i, j, k⟩, [(hd e f 16 0)]) := by simp [finv, *]
  rw [hr]; clear hr
  go_enter Try.func46, Try.ntmps46
  go_wp2
  go_region_held3 (fun W => W.cell? ⟨w.heap.size, 0, none⟩ = some (.int .i64 7) ∧ W.cell? ⟨w.heap.size, 1, none⟩ = some (.int .i64 b) ∧ W.cell? ⟨w.heap.size, 2, none⟩ = some (.int .u32 c) ∧ W.cell? ⟨w.heap.size, 3, none⟩ = some (.int .u32 d) ∧ W.cell? ⟨w.heap.size, 4, none⟩ = some (.int .u32 e) ∧ W.cell? ⟨w.heap.size, 5, none⟩ = some (.int .u32 f) ∧ W.cell? ⟨w.heap.size, 6, none⟩ = some (.int .i64 g) ∧ W.cell? ⟨w.heap.size, 7, none⟩ = some (.int .i64 h) ∧ W.cell? ⟨w.heap.size, 8, none⟩ = some (.int .u8 i) ∧ W.cell? ⟨w.heap.size, 9, none⟩ = some (.int .i64 j) ∧ W.cell? ⟨w.heap.size, 10, none⟩ = some (.int .i64 k)) (((repeat' apply And.intro); all_goals (go_simp; done))) (first | (go_at_call 25; refine (ack_calls _ _ _ _ _ _ _ _ _ _ _ _).mono ?_; rintro e w' ⟨rfl, rfl⟩) | (go_at_call 26; refine (say_calls _ _ _ _).mono ?_; rintro e w' ⟨rfl, rfl⟩))
  go_wp2
  refine bodyPost_ret (v := .tuple #[(Value.agg #[.int .i64 7, .int .i64 b, .int .u32 c, .int .u32 d, .int .u32 e, .int .u32 f, .int .i64 g, .int .i64 h, .int .u8 i, .int .i64 j, .int .i64 k]), .slice (some ⟨w.heap.size + 1 + 1 + 1 + 1, 0, none⟩) 1 1]) (by simp [results, Try.results46, go_sem]) rfl ⟨_, rfl, Segs.one (hd e f 16 0) (by first | (simp; done) | (simp; omega) | omega) (by repeat (first | exact heap_new (by simp) | refine heap_alloc ?_ _ | refine heap_drew ?_)), (by repeat (first | exact Below.refl _ _ | refine Below.drew ?_ | refine below_drewN ?_ _ | refine Below.alloc ?_ (by first | (simp; done) | (simp; omega)) _))⟩

set_option maxHeartbeats 1000000 in
theorem fin_8 (b c d e f g h i j k : Int)  (w : World) : Calls Try.prog 46 #[(Value.agg #[.int .i64 8, .int .i64 b, .int .u32 c, .int .u32 d, .int .u32 e, .int .u32 f, .int .i64 g, .int .i64 h, .int .u8 i, .int .i64 j, .int .i64 k])] w (CPost w (finv ⟨8, b, c, d, e, f, g, h, i, j, k⟩)) := by
  have hr : finv ⟨8, b, c, d, e, f, g, h, i, j, k⟩ = (⟨8, b, c, d, e, f, g, h, i, j, k⟩, [(hd e f 16 0)]) := by simp [finv, *]
  rw [hr]; clear hr
  go_enter Try.func46, Try.ntmps46
  go_wp2
  go_region_held3 (fun W => W.cell? ⟨w.heap.size, 0, none⟩ = some (.int .i64 8) ∧ W.cell? ⟨w.heap.size, 1, none⟩ = some (.int .i64 b) ∧ W.cell? ⟨w.heap.size, 2, none⟩ = some (.int .u32 c) ∧ W.cell? ⟨w.heap.size, 3, none⟩ = some (.int .u32 d) ∧ W.cell? ⟨w.heap.size, 4, none⟩ = some (.int .u32 e) ∧ W.cell? ⟨w.heap.size, 5, none⟩ = some (.int .u32 f) ∧ W.cell? ⟨w.heap.size, 6, none⟩ = some (.int .i64 g) ∧ W.cell? ⟨w.heap.size, 7, none⟩ = some (.int .i64 h) ∧ W.cell? ⟨w.heap.size, 8, none⟩ = some (.int .u8 i) ∧ W.cell? ⟨w.heap.size, 9, none⟩ = some (.int .i64 j) ∧ W.cell? ⟨w.heap.size, 10, none⟩ = some (.int .i64 k)) (((repeat' apply And.intro); all_goals (go_simp; done))) (first | (go_at_call 25; refine (ack_calls _ _ _ _ _ _ _ _ _ _ _ _).mono ?_; rintro e w' ⟨rfl, rfl⟩) | (go_at_call 26; refine (say_calls _ _ _ _).mono ?_; rintro e w' ⟨rfl, rfl⟩))
  go_wp2
  refine bodyPost_ret (v := .tuple #[(Value.agg #[.int .i64 8, .int .i64 b, .int .u32 c, .int .u32 d, .int .u32 e, .int .u32 f, .int .i64 g, .int .i64 h, .int .u8 i, .int .i64 j, .int .i64 k]), .slice (some ⟨w.heap.size + 1 + 1 + 1 + 1, 0, none⟩) 1 1]) (by simp [results, Try.results46, go_sem]) rfl ⟨_, rfl, Segs.one (hd e f 16 0) (by first | (simp; done) | (simp; omega) | omega) (by repeat (first | exact heap_new (by simp) | refine heap_alloc ?_ _ | refine heap_drew ?_)), (by repeat (first | exact Below.refl _ _ | refine Below.drew ?_ | refine below_drewN ?_ _ | refine Below.alloc ?_ (by first | (simp; done) | (simp; omega)) _))⟩

set_option maxHeartbeats 1000000 in
theorem fin_9 (b c d e f g h i j k : Int)  (w : World) : Calls Try.prog 46 #[(Value.agg #[.int .i64 9, .int .i64 b, .int .u32 c, .int .u32 d, .int .u32 e, .int .u32 f, .int .i64 g, .int .i64 h, .int .u8 i, .int .i64 j, .int .i64 k])] w (CPost w (finv ⟨9, b, c, d, e, f, g, h, i, j, k⟩)) := by
  have hr : finv ⟨9, b, c, d, e, f, g, h, i, j, k⟩ = (⟨9, b, c, d, e, f, g, h, i, j, k⟩, [(hd e f 16 0)]) := by simp [finv, *]
  rw [hr]; clear hr
  go_enter Try.func46, Try.ntmps46
  go_wp2
  go_region_held3 (fun W => W.cell? ⟨w.heap.size, 0, none⟩ = some (.int .i64 9) ∧ W.cell? ⟨w.heap.size, 1, none⟩ = some (.int .i64 b) ∧ W.cell? ⟨w.heap.size, 2, none⟩ = some (.int .u32 c) ∧ W.cell? ⟨w.heap.size, 3, none⟩ = some (.int .u32 d) ∧ W.cell? ⟨w.heap.size, 4, none⟩ = some (.int .u32 e) ∧ W.cell? ⟨w.heap.size, 5, none⟩ = some (.int .u32 f) ∧ W.cell? ⟨w.heap.size, 6, none⟩ = some (.int .i64 g) ∧ W.cell? ⟨w.heap.size, 7, none⟩ = some (.int .i64 h) ∧ W.cell? ⟨w.heap.size, 8, none⟩ = some (.int .u8 i) ∧ W.cell? ⟨w.heap.size, 9, none⟩ = some (.int .i64 j) ∧ W.cell? ⟨w.heap.size, 10, none⟩ = some (.int .i64 k)) (((repeat' apply And.intro); all_goals (go_simp; done))) (first | (go_at_call 25; refine (ack_calls _ _ _ _ _ _ _ _ _ _ _ _).mono ?_; rintro e w' ⟨rfl, rfl⟩) | (go_at_call 26; refine (say_calls _ _ _ _).mono ?_; rintro e w' ⟨rfl, rfl⟩))
  go_wp2
  refine bodyPost_ret (v := .tuple #[(Value.agg #[.int .i64 9, .int .i64 b, .int .u32 c, .int .u32 d, .int .u32 e, .int .u32 f, .int .i64 g, .int .i64 h, .int .u8 i, .int .i64 j, .int .i64 k]), .slice (some ⟨w.heap.size + 1 + 1 + 1 + 1, 0, none⟩) 1 1]) (by simp [results, Try.results46, go_sem]) rfl ⟨_, rfl, Segs.one (hd e f 16 0) (by first | (simp; done) | (simp; omega) | omega) (by repeat (first | exact heap_new (by simp) | refine heap_alloc ?_ _ | refine heap_drew ?_)), (by repeat (first | exact Below.refl _ _ | refine Below.drew ?_ | refine below_drewN ?_ _ | refine Below.alloc ?_ (by first | (simp; done) | (simp; omega)) _))⟩

set_option maxHeartbeats 1000000 in
theorem fin_10 (b c d e f g h i j k : Int)  (w : World) : Calls Try.prog 46 #[(Value.agg #[.int .i64 10, .int .i64 b, .int .u32 c, .int .u32 d, .int .u32 e, .int .u32 f, .int .i64 g, .int .i64 h, .int .u8 i, .int .i64 j, .int .i64 k])] w (CPost w (finv ⟨10, b, c, d, e, f, g, h, i, j, k⟩)) := by
  have hr : finv ⟨10, b, c, d, e, f, g, h, i, j, k⟩ = (⟨10, b, c, d, e, f, g, h, i, j, k⟩, [(hd e f 16 0)]) := by simp [finv, *]
  rw [hr]; clear hr
  go_enter Try.func46, Try.ntmps46
  go_wp2
  go_region_held3 (fun W => W.cell? ⟨w.heap.size, 0, none⟩ = some (.int .i64 10) ∧ W.cell? ⟨w.heap.size, 1, none⟩ = some (.int .i64 b) ∧ W.cell? ⟨w.heap.size, 2, none⟩ = some (.int .u32 c) ∧ W.cell? ⟨w.heap.size, 3, none⟩ = some (.int .u32 d) ∧ W.cell? ⟨w.heap.size, 4, none⟩ = some (.int .u32 e) ∧ W.cell? ⟨w.heap.size, 5, none⟩ = some (.int .u32 f) ∧ W.cell? ⟨w.heap.size, 6, none⟩ = some (.int .i64 g) ∧ W.cell? ⟨w.heap.size, 7, none⟩ = some (.int .i64 h) ∧ W.cell? ⟨w.heap.size, 8, none⟩ = some (.int .u8 i) ∧ W.cell? ⟨w.heap.size, 9, none⟩ = some (.int .i64 j) ∧ W.cell? ⟨w.heap.size, 10, none⟩ = some (.int .i64 k)) (((repeat' apply And.intro); all_goals (go_simp; done))) (first | (go_at_call 25; refine (ack_calls _ _ _ _ _ _ _ _ _ _ _ _).mono ?_; rintro e w' ⟨rfl, rfl⟩) | (go_at_call 26; refine (say_calls _ _ _ _).mono ?_; rintro e w' ⟨rfl, rfl⟩))
  go_wp2
  refine bodyPost_ret (v := .tuple #[(Value.agg #[.int .i64 10, .int .i64 b, .int .u32 c, .int .u32 d, .int .u32 e, .int .u32 f, .int .i64 g, .int .i64 h, .int .u8 i, .int .i64 j, .int .i64 k]), .slice (some ⟨w.heap.size + 1 + 1 + 1 + 1, 0, none⟩) 1 1]) (by simp [results, Try.results46, go_sem]) rfl ⟨_, rfl, Segs.one (hd e f 16 0) (by first | (simp; done) | (simp; omega) | omega) (by repeat (first | exact heap_new (by simp) | refine heap_alloc ?_ _ | refine heap_drew ?_)), (by repeat (first | exact Below.refl _ _ | refine Below.drew ?_ | refine below_drewN ?_ _ | refine Below.alloc ?_ (by first | (simp; done) | (simp; omega)) _))⟩

set_option maxHeartbeats 1000000 in
theorem fin_no (a b c d e f g h i j k : Int) (h4 : ¬ a = 4) (h5 : ¬ a = 5) (h6 : ¬ a = 6) (h7 : ¬ a = 7) (h8 : ¬ a = 8) (h9 : ¬ a = 9) (h10 : ¬ a = 10) (w : World) : Calls Try.prog 46 #[(Value.agg #[.int .i64 a, .int .i64 b, .int .u32 c, .int .u32 d, .int .u32 e, .int .u32 f, .int .i64 g, .int .i64 h, .int .u8 i, .int .i64 j, .int .i64 k])] w (CPost w (finv ⟨a, b, c, d, e, f, g, h, i, j, k⟩)) := by
  have hr : finv ⟨a, b, c, d, e, f, g, h, i, j, k⟩ = (⟨a, b, c, d, e, f, g, h, i, j, k⟩, []) := by simp [finv, *]
  rw [hr]; clear hr
  have e4 : (a == 4) = false := by simpa using h4
  have e5 : (a == 5) = false := by simpa using h5
  have e6 : (a == 6) = false := by simpa using h6
  have e7 : (a == 7) = false := by simpa using h7
  have e8 : (a == 8) = false := by simpa using h8
  have e9 : (a == 9) = false := by simpa using h9
  have e10 : (a == 10) = false := by simpa using h10
  go_enter Try.func46, Try.ntmps46
  go_wp2
  refine bodyPost_ret (v := .tuple #[(Value.agg #[.int .i64 a, .int .i64 b, .int .u32 c, .int .u32 d, .int .u32 e, .int .u32 f, .int .i64 g, .int .i64 h, .int .u8 i, .int .i64 j, .int .i64 k]), .slice none 0 0]) (by simp [results, Try.results46, go_sem]) rfl ⟨_, rfl, Segs.nil _ _, (by repeat (first | exact Below.refl _ _ | refine Below.drew ?_ | refine below_drewN ?_ _ | refine Below.alloc ?_ (by first | (simp; done) | (simp; omega)) _))⟩

theorem fin_calls (a b c d e f g h i j k : Int) (w : World) : Calls Try.prog 46 #[(Value.agg #[.int .i64 a, .int .i64 b, .int .u32 c, .int .u32 d, .int .u32 e, .int .u32 f, .int .i64 g, .int .i64 h, .int .u8 i, .int .i64 j, .int .i64 k])] w (CPost w (finv ⟨a, b, c, d, e, f, g, h, i, j, k⟩)) := by
  by_cases h4 : a = 4
  · subst h4; exact fin_4 _ _ _ _ _ _ _ _ _ _ w
  by_cases h5 : a = 5
  · subst h5; exact fin_5 _ _ _ _ _ _ _ _ _ _ w
  by_cases h6 : a = 6
  · subst h6; exact fin_6 _ _ _ _ _ _ _ _ _ _ w
  by_cases h7 : a = 7
  · subst h7; exact fin_7 _ _ _ _ _ _ _ _ _ _ w
  by_cases h8 : a = 8
  · subst h8; exact fin_8 _ _ _ _ _ _ _ _ _ _ w
  by_cases h9 : a = 9
  · subst h9; exact fin_9 _ _ _ _ _ _ _ _ _ _ w
  by_cases h10 : a = 10
  · subst h10; exact fin_10 _ _ _ _ _ _ _ _ _ _ w
  exact fin_no _ _ _ _ _ _ _ _ _ _ _ h4 h5 h6 h7 h8 h9 h10 w
/-- A segment that nobody waits for. -/
def closedv (x : C) (m : H) : C × List H :=
  if has m.flags 4 = true then (x, [])
  else if has m.flags 16 = true then (x, [hd m.ack 0 4 0])
  else if has m.flags 2 = true then (if has m.flags 1 = true then (x, [hd 0 ((m.seq + 1 + 1) % 4294967296) 20 0]) else (x, [hd 0 ((m.seq + 1) % 4294967296) 20 0]))
  else if has m.flags 1 = true then (x, [hd 0 ((m.seq + 1) % 4294967296) 20 0]) else (x, [hd 0 m.seq 20 0])
set_option maxHeartbeats 1000000 in
theorem closed_rst (a b c d e f g h i j k m0 m1 m2 m3 m4 m5 m6 m7 m8 m9 : Int) (h4 : has m6 4 = true) (w : World) : Calls Try.prog 32 #[(Value.agg #[.int .i64 a, .int .i64 b, .int .u32 c, .int .u32 d, .int .u32 e, .int .u32 f, .int .i64 g, .int .i64 h, .int .u8 i, .int .i64 j, .int .i64 k]), (Value.agg #[.int .u16 m0, .int .u16 m1, .int .u32 m2, .int .u32 m3, .int .u8 m4, .int .u8 m5, .int .u8 m6, .int .u16 m7, .int .u16 m8, .int .u16 m9])] w (CPost w (closedv ⟨a, b, c, d, e, f, g, h, i, j, k⟩ ⟨m0, m1, m2, m3, m4, m5, m6, m7, m8, m9⟩)) := by
  have hr : closedv ⟨a, b, c, d, e, f, g, h, i, j, k⟩ ⟨m0, m1, m2, m3, m4, m5, m6, m7, m8, m9⟩ = (⟨a, b, c, d, e, f, g, h, i, j, k⟩, []) := by simp [closedv, *]
  rw [hr]; clear hr
  go_enter Try.func32, Try.ntmps32
  go_wp2_with (first | (go_at_call 38; refine (has_calls _ _ _ _ _ _ _ _ _ _ _ _).mono ?_; rintro e w' ⟨rfl, rfl⟩))
  refine bodyPost_ret (v := .tuple #[(Value.agg #[.int .i64 a, .int .i64 b, .int .u32 c, .int .u32 d, .int .u32 e, .int .u32 f, .int .i64 g, .int .i64 h, .int .u8 i, .int .i64 j, .int .i64 k]), .slice none 0 0]) (by simp [results, Try.results32, go_sem]) rfl ⟨_, rfl, Segs.nil _ _, (by repeat (first | exact Below.refl _ _ | refine Below.drew ?_ | refine below_drewN ?_ _ | refine Below.alloc ?_ (by first | (simp; done) | (simp; omega)) _))⟩

set_option maxHeartbeats 1000000 in
theorem closed_ack (a b c d e f g h i j k m0 m1 m2 m3 m4 m5 m6 m7 m8 m9 : Int) (h4 : has m6 4 = false) (h16 : has m6 16 = true) (w : World) : Calls Try.prog 32 #[(Value.agg #[.int .i64 a, .int .i64 b, .int .u32 c, .int .u32 d, .int .u32 e, .int .u32 f, .int .i64 g, .int .i64 h, .int .u8 i, .int .i64 j, .int .i64 k]), (Value.agg #[.int .u16 m0, .int .u16 m1, .int .u32 m2, .int .u32 m3, .int .u8 m4, .int .u8 m5, .int .u8 m6, .int .u16 m7, .int .u16 m8, .int .u16 m9])] w (CPost w (closedv ⟨a, b, c, d, e, f, g, h, i, j, k⟩ ⟨m0, m1, m2, m3, m4, m5, m6, m7, m8, m9⟩)) := by
  have hr : closedv ⟨a, b, c, d, e, f, g, h, i, j, k⟩ ⟨m0, m1, m2, m3, m4, m5, m6, m7, m8, m9⟩ = (⟨a, b, c, d, e, f, g, h, i, j, k⟩, [(hd m3 0 4 0)]) := by simp [closedv, *]
  rw [hr]; clear hr
  go_enter Try.func32, Try.ntmps32
  go_wp2_with (first | (go_at_call 38; refine (has_calls _ _ _ _ _ _ _ _ _ _ _ _).mono ?_; rintro e w' ⟨rfl, rfl⟩))
  go_region_held3 (fun W => W.cell? ⟨w.heap.size, 0, none⟩ = some (.int .i64 a) ∧ W.cell? ⟨w.heap.size, 1, none⟩ = some (.int .i64 b) ∧ W.cell? ⟨w.heap.size, 2, none⟩ = some (.int .u32 c) ∧ W.cell? ⟨w.heap.size, 3, none⟩ = some (.int .u32 d) ∧ W.cell? ⟨w.heap.size, 4, none⟩ = some (.int .u32 e) ∧ W.cell? ⟨w.heap.size, 5, none⟩ = some (.int .u32 f) ∧ W.cell? ⟨w.heap.size, 6, none⟩ = some (.int .i64 g) ∧ W.cell? ⟨w.heap.size, 7, none⟩ = some (.int .i64 h) ∧ W.cell? ⟨w.heap.size, 8, none⟩ = some (.int .u8 i) ∧ W.cell? ⟨w.heap.size, 9, none⟩ = some (.int .i64 j) ∧ W.cell? ⟨w.heap.size, 10, none⟩ = some (.int .i64 k) ∧ W.cell? ⟨w.heap.size + 1, 0, none⟩ = some (.int .u16 m0) ∧ W.cell? ⟨w.heap.size + 1, 1, none⟩ = some (.int .u16 m1) ∧ W.cell? ⟨w.heap.size + 1, 2, none⟩ = some (.int .u32 m2) ∧ W.cell? ⟨w.heap.size + 1, 3, none⟩ = some (.int .u32 m3) ∧ W.cell? ⟨w.heap.size + 1, 4, none⟩ = some (.int .u8 m4) ∧ W.cell? ⟨w.heap.size + 1, 5, none⟩ = some (.int .u8 m5) ∧ W.cell? ⟨w.heap.size + 1, 6, none⟩ = some (.int .u8 m6) ∧ W.cell? ⟨w.heap.size + 1, 7, none⟩ = some (.int .u16 m7) ∧ W.cell? ⟨w.heap.size + 1, 8, none⟩ = some (.int .u16 m8) ∧ W.cell? ⟨w.heap.size + 1, 9, none⟩ = some (.int .u16 m9)) (((repeat' apply And.intro); all_goals (go_simp; done))) (first | (go_at_call 39; refine (refuse_calls _ _).mono ?_; rintro e w' ⟨rfl, rfl⟩) | (go_at_call 26; refine (say_calls _ _ _ _).mono ?_; rintro e w' ⟨rfl, rfl⟩))
  go_wp2
  refine bodyPost_ret (v := .tuple #[(Value.agg #[.int .i64 a, .int .i64 b, .int .u32 c, .int .u32 d, .int .u32 e, .int .u32 f, .int .i64 g, .int .i64 h, .int .u8 i, .int .i64 j, .int .i64 k]), .slice (some ⟨w.heap.size + 1 + 1 + 1 + 1 + 1 + 1, 0, none⟩) 1 1]) (by simp [results, Try.results32, go_sem]) rfl ⟨_, rfl, Segs.one (hd m3 0 4 0) (by first | (simp; done) | (simp; omega) | omega) (by repeat (first | exact heap_new (by simp) | refine heap_alloc ?_ _ | refine heap_drew ?_)), (by repeat (first | exact Below.refl _ _ | refine Below.drew ?_ | refine below_drewN ?_ _ | refine Below.alloc ?_ (by first | (simp; done) | (simp; omega)) _))⟩

set_option maxHeartbeats 1000000 in
theorem closed_00 (a b c d e f g h i j k m0 m1 m2 m3 m4 m5 m6 m7 m8 m9 : Int) (h4 : has m6 4 = false) (h16 : has m6 16 = false) (h2 : has m6 2 = false) (h1 : has m6 1 = false) (w : World) : Calls Try.prog 32 #[(Value.agg #[.int .i64 a, .int .i64 b, .int .u32 c, .int .u32 d, .int .u32 e, .int .u32 f, .int .i64 g, .int .i64 h, .int .u8 i, .int .i64 j, .int .i64 k]), (Value.agg #[.int .u16 m0, .int .u16 m1, .int .u32 m2, .int .u32 m3, .int .u8 m4, .int .u8 m5, .int .u8 m6, .int .u16 m7, .int .u16 m8, .int .u16 m9])] w (CPost w (closedv ⟨a, b, c, d, e, f, g, h, i, j, k⟩ ⟨m0, m1, m2, m3, m4, m5, m6, m7, m8, m9⟩)) := by
  have hr : closedv ⟨a, b, c, d, e, f, g, h, i, j, k⟩ ⟨m0, m1, m2, m3, m4, m5, m6, m7, m8, m9⟩ = (⟨a, b, c, d, e, f, g, h, i, j, k⟩, [(hd 0 m2 20 0)]) := by simp [closedv, *]
  rw [hr]; clear hr
  have hbits : bits BinOp.or IntKind.u8 4 16 = 20 := by decide
  have i0 : ∀ w, (Instr.index 22 (.agg #[.int .u8 2, .int .u8 1]) (.int .i64 0)).run Try.prog w = .ok (.int .u8 2) w := fun _ => by kernel_rfl
  have i1 : ∀ w, (Instr.index 22 (.agg #[.int .u8 2, .int .u8 1]) (.int .i64 1)).run Try.prog w = .ok (.int .u8 1) w := fun _ => by kernel_rfl
  go_enter Try.func32, Try.ntmps32
  go_wp2_with (first | (go_at_call 38; refine (has_calls _ _ _ _ _ _ _ _ _ _ _ _).mono ?_; rintro e w' ⟨rfl, rfl⟩) | (go_at_call 39; refine (refuse_calls _ _).mono ?_; rintro e w' ⟨rfl, rfl⟩))
  refine wp_loop_rounds 3 ?_
  rw [rounds_succ]
  go_wp2_with (first | (go_at_call 38; refine (has_calls _ _ _ _ _ _ _ _ _ _ _ _).mono ?_; rintro e w' ⟨rfl, rfl⟩))
  rw [rounds_succ]
  go_wp2_with (first | (go_at_call 38; refine (has_calls _ _ _ _ _ _ _ _ _ _ _ _).mono ?_; rintro e w' ⟨rfl, rfl⟩))
  rw [rounds_succ]
  go_wp2
  go_region_held3 (fun W => W.cell? ⟨w.heap.size, 0, none⟩ = some (.int .i64 a) ∧ W.cell? ⟨w.heap.size, 1, none⟩ = some (.int .i64 b) ∧ W.cell? ⟨w.heap.size, 2, none⟩ = some (.int .u32 c) ∧ W.cell? ⟨w.heap.size, 3, none⟩ = some (.int .u32 d) ∧ W.cell? ⟨w.heap.size, 4, none⟩ = some (.int .u32 e) ∧ W.cell? ⟨w.heap.size, 5, none⟩ = some (.int .u32 f) ∧ W.cell? ⟨w.heap.size, 6, none⟩ = some (.int .i64 g) ∧ W.cell? ⟨w.heap.size, 7, none⟩ = some (.int .i64 h) ∧ W.cell? ⟨w.heap.size, 8, none⟩ = some (.int .u8 i) ∧ W.cell? ⟨w.heap.size, 9, none⟩ = some (.int .i64 j) ∧ W.cell? ⟨w.heap.size, 10, none⟩ = some (.int .i64 k) ∧ W.cell? ⟨w.heap.size + 1 + 1 + 1 + 1 + 1 + 1, 0, none⟩ = some (.int .u16 0) ∧ W.cell? ⟨w.heap.size + 1 + 1 + 1 + 1 + 1 + 1, 1, none⟩ = some (.int .u16 0) ∧ W.cell? ⟨w.heap.size + 1 + 1 + 1 + 1 + 1 + 1, 2, none⟩ = some (.int .u32 0) ∧ W.cell? ⟨w.heap.size + 1 + 1 + 1 + 1 + 1 + 1, 3, none⟩ = some (.int .u32 m2) ∧ W.cell? ⟨w.heap.size + 1 + 1 + 1 + 1 + 1 + 1, 4, none⟩ = some (.int .u8 5) ∧ W.cell? ⟨w.heap.size + 1 + 1 + 1 + 1 + 1 + 1, 5, none⟩ = some (.int .u8 0) ∧ W.cell? ⟨w.heap.size + 1 + 1 + 1 + 1 + 1 + 1, 6, none⟩ = some (.int .u8 20) ∧ W.cell? ⟨w.heap.size + 1 + 1 + 1 + 1 + 1 + 1, 7, none⟩ = some (.int .u16 0) ∧ W.cell? ⟨w.heap.size + 1 + 1 + 1 + 1 + 1 + 1, 8, none⟩ = some (.int .u16 0) ∧ W.cell? ⟨w.heap.size + 1 + 1 + 1 + 1 + 1 + 1, 9, none⟩ = some (.int .u16 0)) (((repeat' apply And.intro); all_goals (go_simp; done))) (first | (go_at_call 26; refine (say_calls _ _ _ _).mono ?_; rintro e w' ⟨rfl, rfl⟩))
  go_wp2
  refine bodyPost_ret (v := .tuple #[(Value.agg #[.int .i64 a, .int .i64 b, .int .u32 c, .int .u32 d, .int .u32 e, .int .u32 f, .int .i64 g, .int .i64 h, .int .u8 i, .int .i64 j, .int .i64 k]), .slice (some ⟨w.heap.size + 1 + 1 + 1 + 1 + 1 + 1 + 1 + 1 + 1, 0, none⟩) 1 1]) (by simp [results, Try.results32, go_sem]) rfl ⟨_, rfl, Segs.one (hd 0 m2 20 0) (by first | (simp; done) | (simp; omega) | omega) (by repeat (first | exact heap_new (by simp) | refine heap_alloc ?_ _ | refine heap_drew ?_)), (by repeat (first | exact Below.refl _ _ | refine Below.drew ?_ | refine below_drewN ?_ _ | refine Below.alloc ?_ (by first | (simp; done) | (simp; omega)) _))⟩

set_option maxHeartbeats 1000000 in
theorem closed_01 (a b c d e f g h i j k m0 m1 m2 m3 m4 m5 m6 m7 m8 m9 : Int) (h4 : has m6 4 = false) (h16 : has m6 16 = false) (h2 : has m6 2 = false) (h1 : has m6 1 = true) (w : World) : Calls Try.prog 32 #[(Value.agg #[.int .i64 a, .int .i64 b, .int .u32 c, .int .u32 d, .int .u32 e, .int .u32 f, .int .i64 g, .int .i64 h, .int .u8 i, .int .i64 j, .int .i64 k]), (Value.agg #[.int .u16 m0, .int .u16 m1, .int .u32 m2, .int .u32 m3, .int .u8 m4, .int .u8 m5, .int .u8 m6, .int .u16 m7, .int .u16 m8, .int .u16 m9])] w (CPost w (closedv ⟨a, b, c, d, e, f, g, h, i, j, k⟩ ⟨m0, m1, m2, m3, m4, m5, m6, m7, m8, m9⟩)) := by
  have hr : closedv ⟨a, b, c, d, e, f, g, h, i, j, k⟩ ⟨m0, m1, m2, m3, m4, m5, m6, m7, m8, m9⟩ = (⟨a, b, c, d, e, f, g, h, i, j, k⟩, [(hd 0 ((m2 + 1) % 4294967296) 20 0)]) := by simp [closedv, *]
  rw [hr]; clear hr
  have hbits : bits BinOp.or IntKind.u8 4 16 = 20 := by decide
  have i0 : ∀ w, (Instr.index 22 (.agg #[.int .u8 2, .int .u8 1]) (.int .i64 0)).run Try.prog w = .ok (.int .u8 2) w := fun _ => by kernel_rfl
  have i1 : ∀ w, (Instr.index 22 (.agg #[.int .u8 2, .int .u8 1]) (.int .i64 1)).run Try.prog w = .ok (.int .u8 1) w := fun _ => by kernel_rfl
  go_enter Try.func32, Try.ntmps32
  go_wp2_with (first | (go_at_call 38; refine (has_calls _ _ _ _ _ _ _ _ _ _ _ _).mono ?_; rintro e w' ⟨rfl, rfl⟩) | (go_at_call 39; refine (refuse_calls _ _).mono ?_; rintro e w' ⟨rfl, rfl⟩))
  refine wp_loop_rounds 3 ?_
  rw [rounds_succ]
  go_wp2_with (first | (go_at_call 38; refine (has_calls _ _ _ _ _ _ _ _ _ _ _ _).mono ?_; rintro e w' ⟨rfl, rfl⟩))
  rw [rounds_succ]
  go_wp2_with (first | (go_at_call 38; refine (has_calls _ _ _ _ _ _ _ _ _ _ _ _).mono ?_; rintro e w' ⟨rfl, rfl⟩))
  rw [rounds_succ]
  go_wp2
  go_region_held3 (fun W => W.cell? ⟨w.heap.size, 0, none⟩ = some (.int .i64 a) ∧ W.cell? ⟨w.heap.size, 1, none⟩ = some (.int .i64 b) ∧ W.cell? ⟨w.heap.size, 2, none⟩ = some (.int .u32 c) ∧ W.cell? ⟨w.heap.size, 3, none⟩ = some (.int .u32 d) ∧ W.cell? ⟨w.heap.size, 4, none⟩ = some (.int .u32 e) ∧ W.cell? ⟨w.heap.size, 5, none⟩ = some (.int .u32 f) ∧ W.cell? ⟨w.heap.size, 6, none⟩ = some (.int .i64 g) ∧ W.cell? ⟨w.heap.size, 7, none⟩ = some (.int .i64 h) ∧ W.cell? ⟨w.heap.size, 8, none⟩ = some (.int .u8 i) ∧ W.cell? ⟨w.heap.size, 9, none⟩ = some (.int .i64 j) ∧ W.cell? ⟨w.heap.size, 10, none⟩ = some (.int .i64 k) ∧ W.cell? ⟨w.heap.size + 1 + 1 + 1 + 1 + 1 + 1, 0, none⟩ = some (.int .u16 0) ∧ W.cell? ⟨w.heap.size + 1 + 1 + 1 + 1 + 1 + 1, 1, none⟩ = some (.int .u16 0) ∧ W.cell? ⟨w.heap.size + 1 + 1 + 1 + 1 + 1 + 1, 2, none⟩ = some (.int .u32 0) ∧ W.cell? ⟨w.heap.size + 1 + 1 + 1 + 1 + 1 + 1, 3, none⟩ = some (.int .u32 ((m2 + 1) % 4294967296)) ∧ W.cell? ⟨w.heap.size + 1 + 1 + 1 + 1 + 1 + 1, 4, none⟩ = some (.int .u8 5) ∧ W.cell? ⟨w.heap.size + 1 + 1 + 1 + 1 + 1 + 1, 5, none⟩ = some (.int .u8 0) ∧ W.cell? ⟨w.heap.size + 1 + 1 + 1 + 1 + 1 + 1, 6, none⟩ = some (.int .u8 20) ∧ W.cell? ⟨w.heap.size + 1 + 1 + 1 + 1 + 1 + 1, 7, none⟩ = some (.int .u16 0) ∧ W.cell? ⟨w.heap.size + 1 + 1 + 1 + 1 + 1 + 1, 8, none⟩ = some (.int .u16 0) ∧ W.cell? ⟨w.heap.size + 1 + 1 + 1 + 1 + 1 + 1, 9, none⟩ = some (.int .u16 0)) (((repeat' apply And.intro); all_goals (go_simp; done))) (first | (go_at_call 26; refine (say_calls _ _ _ _).mono ?_; rintro e w' ⟨rfl, rfl⟩))
  go_wp2
  refine bodyPost_ret (v := .tuple #[(Value.agg #[.int .i64 a, .int .i64 b, .int .u32 c, .int .u32 d, .int .u32 e, .int .u32 f, .int .i64 g, .int .i64 h, .int .u8 i, .int .i64 j, .int .i64 k]), .slice (some ⟨w.heap.size + 1 + 1 + 1 + 1 + 1 + 1 + 1 + 1 + 1, 0, none⟩) 1 1]) (by simp [results, Try.results32, go_sem]) rfl ⟨_, rfl, Segs.one (hd 0 ((m2 + 1) % 4294967296) 20 0) (by first | (simp; done) | (simp; omega) | omega) (by repeat (first | exact heap_new (by simp) | refine heap_alloc ?_ _ | refine heap_drew ?_)), (by repeat (first | exact Below.refl _ _ | refine Below.drew ?_ | refine below_drewN ?_ _ | refine Below.alloc ?_ (by first | (simp; done) | (simp; omega)) _))⟩

set_option maxHeartbeats 1000000 in
theorem closed_10 (a b c d e f g h i j k m0 m1 m2 m3 m4 m5 m6 m7 m8 m9 : Int) (h4 : has m6 4 = false) (h16 : has m6 16 = false) (h2 : has m6 2 = true) (h1 : has m6 1 = false) (w : World) : Calls Try.prog 32 #[(Value.agg #[.int .i64 a, .int .i64 b, .int .u32 c, .int .u32 d, .int .u32 e, .int .u32 f, .int .i64 g, .int .i64 h, .int .u8 i, .int .i64 j, .int .i64 k]), (Value.agg #[.int .u16 m0, .int .u16 m1, .int .u32 m2, .int .u32 m3, .int .u8 m4, .int .u8 m5, .int .u8 m6, .int .u16 m7, .int .u16 m8, .int .u16 m9])] w (CPost w (closedv ⟨a, b, c, d, e, f, g, h, i, j, k⟩ ⟨m0, m1, m2, m3, m4, m5, m6, m7, m8, m9⟩)) := by
  have hr : closedv ⟨a, b, c, d, e, f, g, h, i, j, k⟩ ⟨m0, m1, m2, m3, m4, m5, m6, m7, m8, m9⟩ = (⟨a, b, c, d, e, f, g, h, i, j, k⟩, [(hd 0 ((m2 + 1) % 4294967296) 20 0)]) := by simp [closedv, *]
  rw [hr]; clear hr
  have hbits : bits BinOp.or IntKind.u8 4 16 = 20 := by decide
  have i0 : ∀ w, (Instr.index 22 (.agg #[.int .u8 2, .int .u8 1]) (.int .i64 0)).run Try.prog w = .ok (.int .u8 2) w := fun _ => by kernel_rfl
  have i1 : ∀ w, (Instr.index 22 (.agg #[.int .u8 2, .int .u8 1]) (.int .i64 1)).run Try.prog w = .ok (.int .u8 1) w := fun _ => by kernel_rfl
  go_enter Try.func32, Try.ntmps32
  go_wp2_with (first | (go_at_call 38; refine (has_calls _ _ _ _ _ _ _ _ _ _ _ _).mono ?_; rintro e w' ⟨rfl, rfl⟩) | (go_at_call 39; refine (refuse_calls _ _).mono ?_; rintro e w' ⟨rfl, rfl⟩))
  refine wp_loop_rounds 3 ?_
  rw [rounds_succ]
  go_wp2_with (first | (go_at_call 38; refine (has_calls _ _ _ _ _ _ _ _ _ _ _ _).mono ?_; rintro e w' ⟨rfl, rfl⟩))
  rw [rounds_succ]
  go_wp2_with (first | (go_at_call 38; refine (has_calls _ _ _ _ _ _ _ _ _ _ _ _).mono ?_; rintro e w' ⟨rfl, rfl⟩))
  rw [rounds_succ]
  go_wp2
  go_region_held3 (fun W => W.cell? ⟨w.heap.size, 0, none⟩ = some (.int .i64 a) ∧ W.cell? ⟨w.heap.size, 1, none⟩ = some (.int .i64 b) ∧ W.cell? ⟨w.heap.size, 2, none⟩ = some (.int .u32 c) ∧ W.cell? ⟨w.heap.size, 3, none⟩ = some (.int .u32 d) ∧ W.cell? ⟨w.heap.size, 4, none⟩ = some (.int .u32 e) ∧ W.cell? ⟨w.heap.size, 5, none⟩ = some (.int .u32 f) ∧ W.cell? ⟨w.heap.size, 6, none⟩ = some (.int .i64 g) ∧ W.cell? ⟨w.heap.size, 7, none⟩ = some (.int .i64 h) ∧ W.cell? ⟨w.heap.size, 8, none⟩ = some (.int .u8 i) ∧ W.cell? ⟨w.heap.size, 9, none⟩ = some (.int .i64 j) ∧ W.cell? ⟨w.heap.size, 10, none⟩ = some (.int .i64 k) ∧ W.cell? ⟨w.heap.size + 1 + 1 + 1 + 1 + 1 + 1, 0, none⟩ = some (.int .u16 0) ∧ W.cell? ⟨w.heap.size + 1 + 1 + 1 + 1 + 1 + 1, 1, none⟩ = some (.int .u16 0) ∧ W.cell? ⟨w.heap.size + 1 + 1 + 1 + 1 + 1 + 1, 2, none⟩ = some (.int .u32 0) ∧ W.cell? ⟨w.heap.size + 1 + 1 + 1 + 1 + 1 + 1, 3, none⟩ = some (.int .u32 ((m2 + 1) % 4294967296)) ∧ W.cell? ⟨w.heap.size + 1 + 1 + 1 + 1 + 1 + 1, 4, none⟩ = some (.int .u8 5) ∧ W.cell? ⟨w.heap.size + 1 + 1 + 1 + 1 + 1 + 1, 5, none⟩ = some (.int .u8 0) ∧ W.cell? ⟨w.heap.size + 1 + 1 + 1 + 1 + 1 + 1, 6, none⟩ = some (.int .u8 20) ∧ W.cell? ⟨w.heap.size + 1 + 1 + 1 + 1 + 1 + 1, 7, none⟩ = some (.int .u16 0) ∧ W.cell? ⟨w.heap.size + 1 + 1 + 1 + 1 + 1 + 1, 8, none⟩ = some (.int .u16 0) ∧ W.cell? ⟨w.heap.size + 1 + 1 + 1 + 1 + 1 + 1, 9, none⟩ = some (.int .u16 0)) (((repeat' apply And.intro); all_goals (go_simp; done))) (first | (go_at_call 26; refine (say_calls _ _ _ _).mono ?_; rintro e w' ⟨rfl, rfl⟩))
  go_wp2
  refine bodyPost_ret (v := .tuple #[(Value.agg #[.int .i64 a, .int .i64 b, .int .u32 c, .int .u32 d, .int .u32 e, .int .u32 f, .int .i64 g, .int .i64 h, .int .u8 i, .int .i64 j, .int .i64 k]), .slice (some ⟨w.heap.size + 1 + 1 + 1 + 1 + 1 + 1 + 1 + 1 + 1, 0, none⟩) 1 1]) (by simp [results, Try.results32, go_sem]) rfl ⟨_, rfl, Segs.one (hd 0 ((m2 + 1) % 4294967296) 20 0) (by first | (simp; done) | (simp; omega) | omega) (by repeat (first | exact heap_new (by simp) | refine heap_alloc ?_ _ | refine heap_drew ?_)), (by repeat (first | exact Below.refl _ _ | refine Below.drew ?_ | refine below_drewN ?_ _ | refine Below.alloc ?_ (by first | (simp; done) | (simp; omega)) _))⟩

set_option maxHeartbeats 1000000 in
theorem closed_11 (a b c d e f g h i j k m0 m1 m2 m3 m4 m5 m6 m7 m8 m9 : Int) (h4 : has m6 4 = false) (h16 : has m6 16 = false) (h2 : has m6 2 = true) (h1 : has m6 1 = true) (w : World) : Calls Try.prog 32 #[(Value.agg #[.int .i64 a, .int .i64 b, .int .u32 c, .int .u32 d, .int .u32 e, .int .u32 f, .int .i64 g, .int .i64 h, .int .u8 i, .int .i64 j, .int .i64 k]), (Value.agg #[.int .u16 m0, .int .u16 m1, .int .u32 m2, .int .u32 m3, .int .u8 m4, .int .u8 m5, .int .u8 m6, .int .u16 m7, .int .u16 m8, .int .u16 m9])] w (CPost w (closedv ⟨a, b, c, d, e, f, g, h, i, j, k⟩ ⟨m0, m1, m2, m3, m4, m5, m6, m7, m8, m9⟩)) := by
  have hr : closedv ⟨a, b, c, d, e, f, g, h, i, j, k⟩ ⟨m0, m1, m2, m3, m4, m5, m6, m7, m8, m9⟩ = (⟨a, b, c, d, e, f, g, h, i, j, k⟩, [(hd 0 ((m2 + 1 + 1) % 4294967296) 20 0)]) := by simp [closedv, *]
  rw [hr]; clear hr
  have hbits : bits BinOp.or IntKind.u8 4 16 = 20 := by decide
  have i0 : ∀ w, (Instr.index 22 (.agg #[.int .u8 2, .int .u8 1]) (.int .i64 0)).run Try.prog w = .ok (.int .u8 2) w := fun _ => by kernel_rfl
  have i1 : ∀ w, (Instr.index 22 (.agg #[.int .u8 2, .int .u8 1]) (.int .i64 1)).run Try.prog w = .ok (.int .u8 1) w := fun _ => by kernel_rfl
  go_enter Try.func32, Try.ntmps32
  go_wp2_with (first | (go_at_call 38; refine (has_calls _ _ _ _ _ _ _ _ _ _ _ _).mono ?_; rintro e w' ⟨rfl, rfl⟩) | (go_at_call 39; refine (refuse_calls _ _).mono ?_; rintro e w' ⟨rfl, rfl⟩))
  refine wp_loop_rounds 3 ?_
  rw [rounds_succ]
  go_wp2_with (first | (go_at_call 38; refine (has_calls _ _ _ _ _ _ _ _ _ _ _ _).mono ?_; rintro e w' ⟨rfl, rfl⟩))
  rw [rounds_succ]
  go_wp2_with (first | (go_at_call 38; refine (has_calls _ _ _ _ _ _ _ _ _ _ _ _).mono ?_; rintro e w' ⟨rfl, rfl⟩))
  rw [rounds_succ]
  go_wp2
  go_region_held3 (fun W => W.cell? ⟨w.heap.size, 0, none⟩ = some (.int .i64 a) ∧ W.cell? ⟨w.heap.size, 1, none⟩ = some (.int .i64 b) ∧ W.cell? ⟨w.heap.size, 2, none⟩ = some (.int .u32 c) ∧ W.cell? ⟨w.heap.size, 3, none⟩ = some (.int .u32 d) ∧ W.cell? ⟨w.heap.size, 4, none⟩ = some (.int .u32 e) ∧ W.cell? ⟨w.heap.size, 5, none⟩ = some (.int .u32 f) ∧ W.cell? ⟨w.heap.size, 6, none⟩ = some (.int .i64 g) ∧ W.cell? ⟨w.heap.size, 7, none⟩ = some (.int .i64 h) ∧ W.cell? ⟨w.heap.size, 8, none⟩ = some (.int .u8 i) ∧ W.cell? ⟨w.heap.size, 9, none⟩ = some (.int .i64 j) ∧ W.cell? ⟨w.heap.size, 10, none⟩ = some (.int .i64 k) ∧ W.cell? ⟨w.heap.size + 1 + 1 + 1 + 1 + 1 + 1, 0, none⟩ = some (.int .u16 0) ∧ W.cell? ⟨w.heap.size + 1 + 1 + 1 + 1 + 1 + 1, 1, none⟩ = some (.int .u16 0) ∧ W.cell? ⟨w.heap.size + 1 + 1 + 1 + 1 + 1 + 1, 2, none⟩ = some (.int .u32 0) ∧ W.cell? ⟨w.heap.size + 1 + 1 + 1 + 1 + 1 + 1, 3, none⟩ = some (.int .u32 ((m2 + 1 + 1) % 4294967296)) ∧ W.cell? ⟨w.heap.size + 1 + 1 + 1 + 1 + 1 + 1, 4, none⟩ = some (.int .u8 5) ∧ W.cell? ⟨w.heap.size + 1 + 1 + 1 + 1 + 1 + 1, 5, none⟩ = some (.int .u8 0) ∧ W.cell? ⟨w.heap.size + 1 + 1 + 1 + 1 + 1 + 1, 6, none⟩ = some (.int .u8 20) ∧ W.cell? ⟨w.heap.size + 1 + 1 + 1 + 1 + 1 + 1, 7, none⟩ = some (.int .u16 0) ∧ W.cell? ⟨w.heap.size + 1 + 1 + 1 + 1 + 1 + 1, 8, none⟩ = some (.int .u16 0) ∧ W.cell? ⟨w.heap.size + 1 + 1 + 1 + 1 + 1 + 1, 9, none⟩ = some (.int .u16 0)) (((repeat' apply And.intro); all_goals (go_simp; done))) (first | (go_at_call 26; refine (say_calls _ _ _ _).mono ?_; rintro e w' ⟨rfl, rfl⟩))
  go_wp2
  refine bodyPost_ret (v := .tuple #[(Value.agg #[.int .i64 a, .int .i64 b, .int .u32 c, .int .u32 d, .int .u32 e, .int .u32 f, .int .i64 g, .int .i64 h, .int .u8 i, .int .i64 j, .int .i64 k]), .slice (some ⟨w.heap.size + 1 + 1 + 1 + 1 + 1 + 1 + 1 + 1 + 1, 0, none⟩) 1 1]) (by simp [results, Try.results32, go_sem]) rfl ⟨_, rfl, Segs.one (hd 0 ((m2 + 1 + 1) % 4294967296) 20 0) (by first | (simp; done) | (simp; omega) | omega) (by repeat (first | exact heap_new (by simp) | refine heap_alloc ?_ _ | refine heap_drew ?_)), (by repeat (first | exact Below.refl _ _ | refine Below.drew ?_ | refine below_drewN ?_ _ | refine Below.alloc ?_ (by first | (simp; done) | (simp; omega)) _))⟩

theorem closed_calls (a b c d e f g h i j k m0 m1 m2 m3 m4 m5 m6 m7 m8 m9 : Int) (w : World) : Calls Try.prog 32 #[(Value.agg #[.int .i64 a, .int .i64 b, .int .u32 c, .int .u32 d, .int .u32 e, .int .u32 f, .int .i64 g, .int .i64 h, .int .u8 i, .int .i64 j, .int .i64 k]), (Value.agg #[.int .u16 m0, .int .u16 m1, .int .u32 m2, .int .u32 m3, .int .u8 m4, .int .u8 m5, .int .u8 m6, .int .u16 m7, .int .u16 m8, .int .u16 m9])] w (CPost w (closedv ⟨a, b, c, d, e, f, g, h, i, j, k⟩ ⟨m0, m1, m2, m3, m4, m5, m6, m7, m8, m9⟩)) := by
  cases h4 : has m6 4
  · cases h16 : has m6 16
    · cases h2 : has m6 2 <;> cases h1 : has m6 1
      · exact closed_00 (a := a) (b := b) (c := c) (d := d) (e := e) (f := f) (g := g) (h := h) (i := i) (j := j) (k := k) (m0 := m0) (m1 := m1) (m2 := m2) (m3 := m3) (m4 := m4) (m5 := m5) (m6 := m6) (m7 := m7) (m8 := m8) (m9 := m9) h4 h16 h2 h1 w
      · exact closed_01 (a := a) (b := b) (c := c) (d := d) (e := e) (f := f) (g := g) (h := h) (i := i) (j := j) (k := k) (m0 := m0) (m1 := m1) (m2 := m2) (m3 := m3) (m4 := m4) (m5 := m5) (m6 := m6) (m7 := m7) (m8 := m8) (m9 := m9) h4 h16 h2 h1 w
      · exact closed_10 (a := a) (b := b) (c := c) (d := d) (e := e) (f := f) (g := g) (h := h) (i := i) (j := j) (k := k) (m0 := m0) (m1 := m1) (m2 := m2) (m3 := m3) (m4 := m4) (m5 := m5) (m6 := m6) (m7 := m7) (m8 := m8) (m9 := m9) h4 h16 h2 h1 w
      · exact closed_11 (a := a) (b := b) (c := c) (d := d) (e := e) (f := f) (g := g) (h := h) (i := i) (j := j) (k := k) (m0 := m0) (m1 := m1) (m2 := m2) (m3 := m3) (m4 := m4) (m5 := m5) (m6 := m6) (m7 := m7) (m8 := m8) (m9 := m9) h4 h16 h2 h1 w
    · exact closed_ack (a := a) (b := b) (c := c) (d := d) (e := e) (f := f) (g := g) (h := h) (i := i) (j := j) (k := k) (m0 := m0) (m1 := m1) (m2 := m2) (m3 := m3) (m4 := m4) (m5 := m5) (m6 := m6) (m7 := m7) (m8 := m8) (m9 := m9) h4 h16 w
  · exact closed_rst (a := a) (b := b) (c := c) (d := d) (e := e) (f := f) (g := g) (h := h) (i := i) (j := j) (k := k) (m0 := m0) (m1 := m1) (m2 := m2) (m3 := m3) (m4 := m4) (m5 := m5) (m6 := m6) (m7 := m7) (m8 := m8) (m9 := m9) h4 w
end Go.Proofs.Ytbklomnlhpbhnaa
