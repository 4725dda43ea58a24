import Derived.Test.YtbklomnlhpbhnaaA2
import Derived.Lib.Hide
namespace Go.Proofs.Ytbklomnlhpbhnaa
open Go.RowKit

theorem wrap_u32 (x : Int) : IntKind.u32.wrap x = x % 4294967296 := by simp [IntKind.wrap, IntKind.signed, IntKind.bits]
theorem seg_calls (s a f n : Int) (w : World) : Calls Try.prog 29 #[.int .u32 s, .int .u32 a, .int .u8 f, .int .u8 n] w fun e_ w' => e_ = .returned (.slice (some ⟨w.heap.size, 0, none⟩) 1 1) ∧ w' = w.alloc (Obj.cells #[.int .u16 0, .int .u16 0, .int .u32 s, .int .u32 a, .int .u8 5, .int .u8 n, .int .u8 f, .int .u16 0, .int .u16 0, .int .u16 0] 52) := by
  go_enter Try.func29, Try.ntmps29
  go_wp2
  go_ret
  exact ⟨rfl, rfl⟩
theorem ref14_Ask_calls (a : Int) (w : World) : Calls Try.prog 36 #[.int .i64 a] w fun e w' => e = .returned (.int .u8 (askv a)) ∧ w' = w := by
  by_cases h : 2 ≤ a
  · have hr : askv a = 7 := by simp [askv, h]
    rw [hr]; clear hr
    go_enter Try.func36, Try.ntmps36; go_wp2; go_ret; exact ⟨rfl, rfl⟩
  by_cases h1 : a = 1
  · subst h1; go_enter Try.func36, Try.ntmps36; go_wp2; go_ret; exact ⟨rfl, rfl⟩
  · have hr : askv a = 0 := by simp [askv, h, h1]
    rw [hr]; clear hr
    go_enter Try.func36, Try.ntmps36; go_wp2; go_ret; exact ⟨rfl, rfl⟩
set_option maxHeartbeats 400000 in
theorem rquestion_no (a b c d e f g h i j k : Int) (hk : ¬ k < 2) (w : World) : Calls Try.prog 28 #[(Value.agg #[.int .i64 a, .int .i64 b, .int .u32 c, .int .u32 d, .int .u32 e, .int .u32 f, .int .i64 g, .int .i64 h, .int .u8 i, .int .i64 j, .int .i64 k])] w fun e_ w' => e_ = .returned (.slice (some ⟨w.heap.size + 1, 0, none⟩) 1 1) ∧ w' = (w.alloc (Obj.cells #[.int .i64 a, .int .i64 b, .int .u32 c, .int .u32 d, .int .u32 e, .int .u32 f, .int .i64 g, .int .i64 h, .int .u8 i, .int .i64 j, .int .i64 k] 27)).alloc (Obj.cells #[.int .u16 0, .int .u16 0, .int .u32 c, .int .u32 0, .int .u8 5, .int .u8 0, .int .u8 2, .int .u16 0, .int .u16 0, .int .u16 0] 52) := by
  go_enter Try.func28, Try.ntmps28
  go_wp2_with (first | (go_at_call 29; refine (seg_calls _ _ _ _ _).mono ?_; rintro e w' ⟨rfl, rfl⟩))
  go_ret
  exact ⟨rfl, rfl⟩
set_option maxHeartbeats 400000 in
theorem rquestion_yes (a b c d e f g h i j k : Int) (hk : k < 2) (w : World) : Calls Try.prog 28 #[(Value.agg #[.int .i64 a, .int .i64 b, .int .u32 c, .int .u32 d, .int .u32 e, .int .u32 f, .int .i64 g, .int .i64 h, .int .u8 i, .int .i64 j, .int .i64 k])] w fun e_ w' => e_ = .returned (.slice (some ⟨w.heap.size + 1, 0, none⟩) 1 1) ∧ w' = ((w.alloc (Obj.cells #[.int .i64 a, .int .i64 b, .int .u32 c, .int .u32 d, .int .u32 e, .int .u32 f, .int .i64 g, .int .i64 h, .int .u8 i, .int .i64 j, .int .i64 k] 27)).alloc (Obj.cells #[.int .u16 0, .int .u16 0, .int .u32 c, .int .u32 0, .int .u8 5, .int .u8 (askv b), .int .u8 2, .int .u16 0, .int .u16 0, .int .u16 0] 52)).drew := by
  generalize hq : askv b = q
  have Hq := Lib.hid hq; clear hq
  go_enter Try.func28, Try.ntmps28
  go_wp2
  go_region_held3 (fun W => W.cell? ⟨w.heap.size, 0, none⟩ = some (.int .i64 a) ∧ W.cell? ⟨w.heap.size, 1, none⟩ = some (.int .i64 b) ∧ W.cell? ⟨w.heap.size, 2, none⟩ = some (.int .u32 c) ∧ W.cell? ⟨w.heap.size, 3, none⟩ = some (.int .u32 d) ∧ W.cell? ⟨w.heap.size, 4, none⟩ = some (.int .u32 e) ∧ W.cell? ⟨w.heap.size, 5, none⟩ = some (.int .u32 f) ∧ W.cell? ⟨w.heap.size, 6, none⟩ = some (.int .i64 g) ∧ W.cell? ⟨w.heap.size, 7, none⟩ = some (.int .i64 h) ∧ W.cell? ⟨w.heap.size, 8, none⟩ = some (.int .u8 i) ∧ W.cell? ⟨w.heap.size, 9, none⟩ = some (.int .i64 j) ∧ W.cell? ⟨w.heap.size, 10, none⟩ = some (.int .i64 k)) (((repeat' apply And.intro); all_goals (go_simp; done))) (first | (go_at_call 36; refine (ref14_Ask_calls _ _).mono ?_; rintro e w' ⟨rfl, rfl⟩; rw [Hq.out]) | (go_at_call 29; refine (seg_calls _ _ _ _ _).mono ?_; rintro e w' ⟨rfl, rfl⟩))
  go_wp2
  go_ret
  exact ⟨rfl, rfl⟩

set_option maxHeartbeats 1000000 in
theorem rask_yes (b c d e f g h i j k : Int)  (w : World) : Calls Try.prog 12 #[(Value.agg #[.int .i64 0, .int .i64 b, .int .u32 c, .int .u32 d, .int .u32 e, .int .u32 f, .int .i64 g, .int .i64 h, .int .u8 i, .int .i64 j, .int .i64 k])] w (CPost w (ask ⟨0, b, c, d, e, f, g, h, i, j, k⟩)) := by
  have hr : ask ⟨0, b, c, d, e, f, g, h, i, j, k⟩ = (⟨2, b, c, c, (c + 1) % 4294967296, f, g, h, i, j, 0⟩, [(hd c 0 2 (askv b))]) := by simp [ask, *]
  rw [hr]; clear hr
  go_enter Try.func12, Try.ntmps12
  go_wp2
  go_region_held3 (fun W => W.cell? ⟨w.heap.size, 0, none⟩ = some (.int .i64 2) ∧ W.cell? ⟨w.heap.size, 1, none⟩ = some (.int .i64 b) ∧ W.cell? ⟨w.heap.size, 2, none⟩ = some (.int .u32 c) ∧ W.cell? ⟨w.heap.size, 3, none⟩ = some (.int .u32 c) ∧ W.cell? ⟨w.heap.size, 4, none⟩ = some (.int .u32 ((c + 1) % 4294967296)) ∧ W.cell? ⟨w.heap.size, 5, none⟩ = some (.int .u32 f) ∧ W.cell? ⟨w.heap.size, 6, none⟩ = some (.int .i64 g) ∧ W.cell? ⟨w.heap.size, 7, none⟩ = some (.int .i64 h) ∧ W.cell? ⟨w.heap.size, 8, none⟩ = some (.int .u8 i) ∧ W.cell? ⟨w.heap.size, 9, none⟩ = some (.int .i64 j) ∧ W.cell? ⟨w.heap.size, 10, none⟩ = some (.int .i64 0)) (((repeat' apply And.intro); all_goals (go_simp; done))) (first | (go_at_call 28; refine (rquestion_yes _ _ _ _ _ _ _ _ _ _ _ (by first | assumption | omega) _).mono ?_; rintro e w' ⟨rfl, rfl⟩))
  go_wp2
  refine bodyPost_ret (v := .tuple #[(Value.agg #[.int .i64 2, .int .i64 b, .int .u32 c, .int .u32 c, .int .u32 ((c + 1) % 4294967296), .int .u32 f, .int .i64 g, .int .i64 h, .int .u8 i, .int .i64 j, .int .i64 0]), .slice (some ⟨w.heap.size + 1 + 1 + 1, 0, none⟩) 1 1]) (by simp [results, Try.results12, go_sem]) rfl ⟨_, rfl, Segs.one (hd c 0 2 (askv b)) (by first | (simp; done) | (simp; omega) | omega) (by repeat (first | exact heap_new (by simp) | refine heap_alloc ?_ _ | refine heap_drew ?_)), (by repeat (first | exact Below.refl _ _ | refine Below.drew ?_ | refine below_drewN ?_ _ | refine Below.alloc ?_ (by first | (simp; done) | (simp; omega)) _))⟩

set_option maxHeartbeats 1000000 in
theorem rask_no (a b c d e f g h i j k : Int) (h0 : ¬ a = 0) (w : World) : Calls Try.prog 12 #[(Value.agg #[.int .i64 a, .int .i64 b, .int .u32 c, .int .u32 d, .int .u32 e, .int .u32 f, .int .i64 g, .int .i64 h, .int .u8 i, .int .i64 j, .int .i64 k])] w (CPost w (ask ⟨a, b, c, d, e, f, g, h, i, j, k⟩)) := by
  have hr : ask ⟨a, b, c, d, e, f, g, h, i, j, k⟩ = (⟨a, b, c, d, e, f, g, h, i, j, k⟩, []) := by simp [ask, *]
  rw [hr]; clear hr
  go_enter Try.func12, Try.ntmps12
  go_wp2
  refine bodyPost_ret (v := .tuple #[(Value.agg #[.int .i64 a, .int .i64 b, .int .u32 c, .int .u32 d, .int .u32 e, .int .u32 f, .int .i64 g, .int .i64 h, .int .u8 i, .int .i64 j, .int .i64 k]), .slice none 0 0]) (by simp [results, Try.results12, go_sem]) rfl ⟨_, rfl, Segs.nil _ _, (by repeat (first | exact Below.refl _ _ | refine Below.drew ?_ | refine below_drewN ?_ _ | refine Below.alloc ?_ (by first | (simp; done) | (simp; omega)) _))⟩

set_option maxHeartbeats 1000000 in
theorem rclose_1 (b c d e f g h i j k : Int)  (w : World) : Calls Try.prog 14 #[(Value.agg #[.int .i64 1, .int .i64 b, .int .u32 c, .int .u32 d, .int .u32 e, .int .u32 f, .int .i64 g, .int .i64 h, .int .u8 i, .int .i64 j, .int .i64 k])] w (CPost w (close ⟨1, b, c, d, e, f, g, h, i, j, k⟩)) := by
  have hr : close ⟨1, b, c, d, e, f, g, h, i, j, k⟩ = (⟨0, b, c, d, e, f, g, h, i, j, k⟩, []) := by simp [close, *]
  rw [hr]; clear hr
  go_enter Try.func14, Try.ntmps14
  go_wp2
  refine bodyPost_ret (v := .tuple #[(Value.agg #[.int .i64 0, .int .i64 b, .int .u32 c, .int .u32 d, .int .u32 e, .int .u32 f, .int .i64 g, .int .i64 h, .int .u8 i, .int .i64 j, .int .i64 k]), .slice none 0 0]) (by simp [results, Try.results14, go_sem]) rfl ⟨_, rfl, Segs.nil _ _, (by repeat (first | exact Below.refl _ _ | refine Below.drew ?_ | refine below_drewN ?_ _ | refine Below.alloc ?_ (by first | (simp; done) | (simp; omega)) _))⟩

set_option maxHeartbeats 1000000 in
theorem rclose_2 (b c d e f g h i j k : Int)  (w : World) : Calls Try.prog 14 #[(Value.agg #[.int .i64 2, .int .i64 b, .int .u32 c, .int .u32 d, .int .u32 e, .int .u32 f, .int .i64 g, .int .i64 h, .int .u8 i, .int .i64 j, .int .i64 k])] w (CPost w (close ⟨2, b, c, d, e, f, g, h, i, j, k⟩)) := by
  have hr : close ⟨2, b, c, d, e, f, g, h, i, j, k⟩ = (⟨0, b, c, d, e, f, g, h, i, j, k⟩, []) := by simp [close, *]
  rw [hr]; clear hr
  go_enter Try.func14, Try.ntmps14
  go_wp2
  refine bodyPost_ret (v := .tuple #[(Value.agg #[.int .i64 0, .int .i64 b, .int .u32 c, .int .u32 d, .int .u32 e, .int .u32 f, .int .i64 g, .int .i64 h, .int .u8 i, .int .i64 j, .int .i64 k]), .slice none 0 0]) (by simp [results, Try.results14, go_sem]) rfl ⟨_, rfl, Segs.nil _ _, (by repeat (first | exact Below.refl _ _ | refine Below.drew ?_ | refine below_drewN ?_ _ | refine Below.alloc ?_ (by first | (simp; done) | (simp; omega)) _))⟩

set_option maxHeartbeats 1000000 in
theorem rclose_3 (b c d e f g h i j k : Int)  (w : World) : Calls Try.prog 14 #[(Value.agg #[.int .i64 3, .int .i64 b, .int .u32 c, .int .u32 d, .int .u32 e, .int .u32 f, .int .i64 g, .int .i64 h, .int .u8 i, .int .i64 j, .int .i64 k])] w (CPost w (close ⟨3, b, c, d, e, f, g, h, i, j, k⟩)) := by
  have hr : close ⟨3, b, c, d, e, f, g, h, i, j, k⟩ = (⟨5, b, c, d, (e + 1) % 4294967296, f, g, h, i, j, 0⟩, [(hd (e % 4294967296) f 17 0)]) := by simp [close, *]
  rw [hr]; clear hr
  go_enter Try.func14, Try.ntmps14
  go_wp2
  generalize hq : (e + 1) % 4294967296 = q
  have Hq := Lib.hid hq; clear hq
  go_region_held3 (fun W => W.cell? ⟨w.heap.size, 0, none⟩ = some (.int .i64 5) ∧ W.cell? ⟨w.heap.size, 1, none⟩ = some (.int .i64 b) ∧ W.cell? ⟨w.heap.size, 2, none⟩ = some (.int .u32 c) ∧ W.cell? ⟨w.heap.size, 3, none⟩ = some (.int .u32 d) ∧ W.cell? ⟨w.heap.size, 4, none⟩ = some (.int .u32 q) ∧ W.cell? ⟨w.heap.size, 5, none⟩ = some (.int .u32 f) ∧ W.cell? ⟨w.heap.size, 6, none⟩ = some (.int .i64 g) ∧ W.cell? ⟨w.heap.size, 7, none⟩ = some (.int .i64 h) ∧ W.cell? ⟨w.heap.size, 8, none⟩ = some (.int .u8 i) ∧ W.cell? ⟨w.heap.size, 9, none⟩ = some (.int .i64 j) ∧ W.cell? ⟨w.heap.size, 10, none⟩ = some (.int .i64 0)) (((repeat' apply And.intro); all_goals (go_simp; done))) (first | (go_at_call 29; refine (seg_calls _ _ _ _ _).mono ?_; rintro e w' ⟨rfl, rfl⟩))
  go_wp2
  have hq2 : IntKind.u32.wrap (q - 1) = e % 4294967296 := by rw [← Hq.out, wrap_u32]; omega
  rw [hq2]; clear hq2
  have hq := Hq.out; clear Hq; subst hq
  refine bodyPost_ret (v := .tuple #[(Value.agg #[.int .i64 5, .int .i64 b, .int .u32 c, .int .u32 d, .int .u32 ((e + 1) % 4294967296), .int .u32 f, .int .i64 g, .int .i64 h, .int .u8 i, .int .i64 j, .int .i64 0]), .slice (some ⟨w.heap.size + 1 + 1, 0, none⟩) 1 1]) (by simp [results, Try.results14, go_sem]) rfl ⟨_, rfl, Segs.one (hd (e % 4294967296) f 17 0) (by first | (simp; done) | (simp; omega) | omega) (by repeat (first | exact heap_new (by simp) | refine heap_alloc ?_ _ | refine heap_drew ?_)), (by repeat (first | exact Below.refl _ _ | refine Below.drew ?_ | refine below_drewN ?_ _ | refine Below.alloc ?_ (by first | (simp; done) | (simp; omega)) _))⟩

set_option maxHeartbeats 1000000 in
theorem rclose_4 (b c d e f g h i j k : Int)  (w : World) : Calls Try.prog 14 #[(Value.agg #[.int .i64 4, .int .i64 b, .int .u32 c, .int .u32 d, .int .u32 e, .int .u32 f, .int .i64 g, .int .i64 h, .int .u8 i, .int .i64 j, .int .i64 k])] w (CPost w (close ⟨4, b, c, d, e, f, g, h, i, j, k⟩)) := by
  have hr : close ⟨4, b, c, d, e, f, g, h, i, j, k⟩ = (⟨5, b, c, d, (e + 1) % 4294967296, f, g, h, i, j, 0⟩, [(hd (e % 4294967296) f 17 0)]) := by simp [close, *]
  rw [hr]; clear hr
  go_enter Try.func14, Try.ntmps14
  go_wp2
  generalize hq : (e + 1) % 4294967296 = q
  have Hq := Lib.hid hq; clear hq
  go_region_held3 (fun W => W.cell? ⟨w.heap.size, 0, none⟩ = some (.int .i64 5) ∧ W.cell? ⟨w.heap.size, 1, none⟩ = some (.int .i64 b) ∧ W.cell? ⟨w.heap.size, 2, none⟩ = some (.int .u32 c) ∧ W.cell? ⟨w.heap.size, 3, none⟩ = some (.int .u32 d) ∧ W.cell? ⟨w.heap.size, 4, none⟩ = some (.int .u32 q) ∧ W.cell? ⟨w.heap.size, 5, none⟩ = some (.int .u32 f) ∧ W.cell? ⟨w.heap.size, 6, none⟩ = some (.int .i64 g) ∧ W.cell? ⟨w.heap.size, 7, none⟩ = some (.int .i64 h) ∧ W.cell? ⟨w.heap.size, 8, none⟩ = some (.int .u8 i) ∧ W.cell? ⟨w.heap.size, 9, none⟩ = some (.int .i64 j) ∧ W.cell? ⟨w.heap.size, 10, none⟩ = some (.int .i64 0)) (((repeat' apply And.intro); all_goals (go_simp; done))) (first | (go_at_call 29; refine (seg_calls _ _ _ _ _).mono ?_; rintro e w' ⟨rfl, rfl⟩))
  go_wp2
  have hq2 : IntKind.u32.wrap (q - 1) = e % 4294967296 := by rw [← Hq.out, wrap_u32]; omega
  rw [hq2]; clear hq2
  have hq := Hq.out; clear Hq; subst hq
  refine bodyPost_ret (v := .tuple #[(Value.agg #[.int .i64 5, .int .i64 b, .int .u32 c, .int .u32 d, .int .u32 ((e + 1) % 4294967296), .int .u32 f, .int .i64 g, .int .i64 h, .int .u8 i, .int .i64 j, .int .i64 0]), .slice (some ⟨w.heap.size + 1 + 1, 0, none⟩) 1 1]) (by simp [results, Try.results14, go_sem]) rfl ⟨_, rfl, Segs.one (hd (e % 4294967296) f 17 0) (by first | (simp; done) | (simp; omega) | omega) (by repeat (first | exact heap_new (by simp) | refine heap_alloc ?_ _ | refine heap_drew ?_)), (by repeat (first | exact Below.refl _ _ | refine Below.drew ?_ | refine below_drewN ?_ _ | refine Below.alloc ?_ (by first | (simp; done) | (simp; omega)) _))⟩

set_option maxHeartbeats 1000000 in
theorem rclose_9 (b c d e f g h i j k : Int)  (w : World) : Calls Try.prog 14 #[(Value.agg #[.int .i64 9, .int .i64 b, .int .u32 c, .int .u32 d, .int .u32 e, .int .u32 f, .int .i64 g, .int .i64 h, .int .u8 i, .int .i64 j, .int .i64 k])] w (CPost w (close ⟨9, b, c, d, e, f, g, h, i, j, k⟩)) := by
  have hr : close ⟨9, b, c, d, e, f, g, h, i, j, k⟩ = (⟨10, b, c, d, (e + 1) % 4294967296, f, g, h, i, j, 0⟩, [(hd (e % 4294967296) f 17 0)]) := by simp [close, *]
  rw [hr]; clear hr
  go_enter Try.func14, Try.ntmps14
  go_wp2
  generalize hq : (e + 1) % 4294967296 = q
  have Hq := Lib.hid hq; clear hq
  go_region_held3 (fun W => W.cell? ⟨w.heap.size, 0, none⟩ = some (.int .i64 10) ∧ W.cell? ⟨w.heap.size, 1, none⟩ = some (.int .i64 b) ∧ W.cell? ⟨w.heap.size, 2, none⟩ = some (.int .u32 c) ∧ W.cell? ⟨w.heap.size, 3, none⟩ = some (.int .u32 d) ∧ W.cell? ⟨w.heap.size, 4, none⟩ = some (.int .u32 q) ∧ W.cell? ⟨w.heap.size, 5, none⟩ = some (.int .u32 f) ∧ W.cell? ⟨w.heap.size, 6, none⟩ = some (.int .i64 g) ∧ W.cell? ⟨w.heap.size, 7, none⟩ = some (.int .i64 h) ∧ W.cell? ⟨w.heap.size, 8, none⟩ = some (.int .u8 i) ∧ W.cell? ⟨w.heap.size, 9, none⟩ = some (.int .i64 j) ∧ W.cell? ⟨w.heap.size, 10, none⟩ = some (.int .i64 0)) (((repeat' apply And.intro); all_goals (go_simp; done))) (first | (go_at_call 29; refine (seg_calls _ _ _ _ _).mono ?_; rintro e w' ⟨rfl, rfl⟩))
  go_wp2
  have hq2 : IntKind.u32.wrap (q - 1) = e % 4294967296 := by rw [← Hq.out, wrap_u32]; omega
  rw [hq2]; clear hq2
  have hq := Hq.out; clear Hq; subst hq
  refine bodyPost_ret (v := .tuple #[(Value.agg #[.int .i64 10, .int .i64 b, .int .u32 c, .int .u32 d, .int .u32 ((e + 1) % 4294967296), .int .u32 f, .int .i64 g, .int .i64 h, .int .u8 i, .int .i64 j, .int .i64 0]), .slice (some ⟨w.heap.size + 1 + 1, 0, none⟩) 1 1]) (by simp [results, Try.results14, go_sem]) rfl ⟨_, rfl, Segs.one (hd (e % 4294967296) f 17 0) (by first | (simp; done) | (simp; omega) | omega) (by repeat (first | exact heap_new (by simp) | refine heap_alloc ?_ _ | refine heap_drew ?_)), (by repeat (first | exact Below.refl _ _ | refine Below.drew ?_ | refine below_drewN ?_ _ | refine Below.alloc ?_ (by first | (simp; done) | (simp; omega)) _))⟩

set_option maxHeartbeats 1000000 in
theorem rclose_no (a b c d e f g h i j k : Int) (h1 : ¬ a = 1) (h2 : ¬ a = 2) (h3 : ¬ a = 3) (h4 : ¬ a = 4) (h5 : ¬ a = 9) (w : World) : Calls Try.prog 14 #[(Value.agg #[.int .i64 a, .int .i64 b, .int .u32 c, .int .u32 d, .int .u32 e, .int .u32 f, .int .i64 g, .int .i64 h, .int .u8 i, .int .i64 j, .int .i64 k])] w (CPost w (close ⟨a, b, c, d, e, f, g, h, i, j, k⟩)) := by
  have hr : close ⟨a, b, c, d, e, f, g, h, i, j, k⟩ = (⟨a, b, c, d, e, f, g, h, i, j, k⟩, []) := by simp [close, *]
  rw [hr]; clear hr
  have g1 : (a != 1) = true := by simpa using h1
  have e1 : (a == 1) = false := by simpa using h1
  have g2 : (a != 2) = true := by simpa using h2
  have e2 : (a == 2) = false := by simpa using h2
  have g3 : (a != 3) = true := by simpa using h3
  have e3 : (a == 3) = false := by simpa using h3
  have g4 : (a != 4) = true := by simpa using h4
  have e4 : (a == 4) = false := by simpa using h4
  have g9 : (a != 9) = true := by simpa using h5
  have e9 : (a == 9) = false := by simpa using h5
  go_enter Try.func14, Try.ntmps14
  go_wp2
  refine bodyPost_ret (v := .tuple #[(Value.agg #[.int .i64 a, .int .i64 b, .int .u32 c, .int .u32 d, .int .u32 e, .int .u32 f, .int .i64 g, .int .i64 h, .int .u8 i, .int .i64 j, .int .i64 k]), .slice none 0 0]) (by simp [results, Try.results14, go_sem]) rfl ⟨_, rfl, Segs.nil _ _, (by repeat (first | exact Below.refl _ _ | refine Below.drew ?_ | refine below_drewN ?_ _ | refine Below.alloc ?_ (by first | (simp; done) | (simp; omega)) _))⟩

set_option maxHeartbeats 1000000 in
theorem rtimeout_8 (b c d e f g h i j k : Int)  (w : World) : Calls Try.prog 15 #[(Value.agg #[.int .i64 8, .int .i64 b, .int .u32 c, .int .u32 d, .int .u32 e, .int .u32 f, .int .i64 g, .int .i64 h, .int .u8 i, .int .i64 j, .int .i64 k])] w (CPost w (timeout ⟨8, b, c, d, e, f, g, h, i, j, k⟩)) := by
  have hr : timeout ⟨8, b, c, d, e, f, g, h, i, j, k⟩ = (⟨0, b, c, d, e, f, g, h, i, j, k⟩, []) := by simp [timeout, *]
  rw [hr]; clear hr
  go_enter Try.func15, Try.ntmps15
  go_wp2
  refine bodyPost_ret (v := .tuple #[(Value.agg #[.int .i64 0, .int .i64 b, .int .u32 c, .int .u32 d, .int .u32 e, .int .u32 f, .int .i64 g, .int .i64 h, .int .u8 i, .int .i64 j, .int .i64 k]), .slice none 0 0]) (by simp [results, Try.results15, go_sem]) rfl ⟨_, rfl, Segs.nil _ _, (by repeat (first | exact Below.refl _ _ | refine Below.drew ?_ | refine below_drewN ?_ _ | refine Below.alloc ?_ (by first | (simp; done) | (simp; omega)) _))⟩

set_option maxHeartbeats 1000000 in
theorem rtimeout_no (a b c d e f g h i j k : Int) (h1 : ¬ a = 8) (h2 : ¬ a = 2) (h3 : ¬ a = 3) (h4 : ¬ a = 5) (h5 : ¬ a = 7) (h6 : ¬ a = 10) (w : World) : Calls Try.prog 15 #[(Value.agg #[.int .i64 a, .int .i64 b, .int .u32 c, .int .u32 d, .int .u32 e, .int .u32 f, .int .i64 g, .int .i64 h, .int .u8 i, .int .i64 j, .int .i64 k])] w (CPost w (timeout ⟨a, b, c, d, e, f, g, h, i, j, k⟩)) := by
  have hr : timeout ⟨a, b, c, d, e, f, g, h, i, j, k⟩ = (⟨a, b, c, d, e, f, g, h, i, j, k⟩, []) := by simp [timeout, *]
  rw [hr]; clear hr
  have g8 : (a != 8) = true := by simpa using h1
  have e8 : (a == 8) = false := by simpa using h1
  have g2 : (a != 2) = true := by simpa using h2
  have e2 : (a == 2) = false := by simpa using h2
  have g3 : (a != 3) = true := by simpa using h3
  have e3 : (a == 3) = false := by simpa using h3
  have g5 : (a != 5) = true := by simpa using h4
  have e5 : (a == 5) = false := by simpa using h4
  have g7 : (a != 7) = true := by simpa using h5
  have e7 : (a == 7) = false := by simpa using h5
  have g10 : (a != 10) = true := by simpa using h6
  have e10 : (a == 10) = false := by simpa using h6
  go_enter Try.func15, Try.ntmps15
  go_wp2
  refine bodyPost_ret (v := .tuple #[(Value.agg #[.int .i64 a, .int .i64 b, .int .u32 c, .int .u32 d, .int .u32 e, .int .u32 f, .int .i64 g, .int .i64 h, .int .u8 i, .int .i64 j, .int .i64 k]), .slice none 0 0]) (by simp [results, Try.results15, go_sem]) rfl ⟨_, rfl, Segs.nil _ _, (by repeat (first | exact Below.refl _ _ | refine Below.drew ?_ | refine below_drewN ?_ _ | refine Below.alloc ?_ (by first | (simp; done) | (simp; omega)) _))⟩

set_option maxHeartbeats 1000000 in
theorem rtimeout_2_rst (b c d e f g h i j k : Int) (hk : 6 ≤ k) (w : World) : Calls Try.prog 15 #[(Value.agg #[.int .i64 2, .int .i64 b, .int .u32 c, .int .u32 d, .int .u32 e, .int .u32 f, .int .i64 g, .int .i64 h, .int .u8 i, .int .i64 j, .int .i64 k])] w (CPost w (timeout ⟨2, b, c, d, e, f, g, h, i, j, k⟩)) := by
  have hr : timeout ⟨2, b, c, d, e, f, g, h, i, j, k⟩ = (⟨0, b, c, d, e, f, g, h, i, j, k⟩, [(hd e f 20 0)]) := by simp [timeout, *]
  rw [hr]; clear hr
  go_enter Try.func15, Try.ntmps15
  go_wp2
  go_region_held3 (fun W => W.cell? ⟨w.heap.size, 0, none⟩ = some (.int .i64 0) ∧ W.cell? ⟨w.heap.size, 1, none⟩ = some (.int .i64 b) ∧ W.cell? ⟨w.heap.size, 2, none⟩ = some (.int .u32 c) ∧ W.cell? ⟨w.heap.size, 3, none⟩ = some (.int .u32 d) ∧ W.cell? ⟨w.heap.size, 4, none⟩ = some (.int .u32 e) ∧ W.cell? ⟨w.heap.size, 5, none⟩ = some (.int .u32 f) ∧ W.cell? ⟨w.heap.size, 6, none⟩ = some (.int .i64 g) ∧ W.cell? ⟨w.heap.size, 7, none⟩ = some (.int .i64 h) ∧ W.cell? ⟨w.heap.size, 8, none⟩ = some (.int .u8 i) ∧ W.cell? ⟨w.heap.size, 9, none⟩ = some (.int .i64 j) ∧ W.cell? ⟨w.heap.size, 10, none⟩ = some (.int .i64 k)) (((repeat' apply And.intro); all_goals (go_simp; done))) (first | (go_at_call 29; refine (seg_calls _ _ _ _ _).mono ?_; rintro e w' ⟨rfl, rfl⟩))
  go_wp2
  refine bodyPost_ret (v := .tuple #[(Value.agg #[.int .i64 0, .int .i64 b, .int .u32 c, .int .u32 d, .int .u32 e, .int .u32 f, .int .i64 g, .int .i64 h, .int .u8 i, .int .i64 j, .int .i64 k]), .slice (some ⟨w.heap.size + 1 + 1, 0, none⟩) 1 1]) (by simp [results, Try.results15, go_sem]) rfl ⟨_, rfl, Segs.one (hd e f 20 0) (by first | (simp; done) | (simp; omega) | omega) (by repeat (first | exact heap_new (by simp) | refine heap_alloc ?_ _ | refine heap_drew ?_)), (by repeat (first | exact Below.refl _ _ | refine Below.drew ?_ | refine below_drewN ?_ _ | refine Below.alloc ?_ (by first | (simp; done) | (simp; omega)) _))⟩

set_option maxHeartbeats 1000000 in
theorem rtimeout_2_y (b c d e f g h i j k : Int) (hk : k < 6) (hq : wrap64 (k + 1) < 2) (w : World) : Calls Try.prog 15 #[(Value.agg #[.int .i64 2, .int .i64 b, .int .u32 c, .int .u32 d, .int .u32 e, .int .u32 f, .int .i64 g, .int .i64 h, .int .u8 i, .int .i64 j, .int .i64 k])] w (CPost w (timeout ⟨2, b, c, d, e, f, g, h, i, j, k⟩)) := by
  have hr : timeout ⟨2, b, c, d, e, f, g, h, i, j, k⟩ = (⟨2, b, c, d, e, f, g, h, i, j, wrap64 (k + 1)⟩, [(hd c 0 2 (askv b))]) := by (have h6 : ¬ 6 ≤ k := (by omega)); simp [timeout, h6, hq]
  rw [hr]; clear hr
  go_enter Try.func15, Try.ntmps15
  go_wp2
  go_region_held3 (fun W => W.cell? ⟨w.heap.size, 0, none⟩ = some (.int .i64 2) ∧ W.cell? ⟨w.heap.size, 1, none⟩ = some (.int .i64 b) ∧ W.cell? ⟨w.heap.size, 2, none⟩ = some (.int .u32 c) ∧ W.cell? ⟨w.heap.size, 3, none⟩ = some (.int .u32 d) ∧ W.cell? ⟨w.heap.size, 4, none⟩ = some (.int .u32 e) ∧ W.cell? ⟨w.heap.size, 5, none⟩ = some (.int .u32 f) ∧ W.cell? ⟨w.heap.size, 6, none⟩ = some (.int .i64 g) ∧ W.cell? ⟨w.heap.size, 7, none⟩ = some (.int .i64 h) ∧ W.cell? ⟨w.heap.size, 8, none⟩ = some (.int .u8 i) ∧ W.cell? ⟨w.heap.size, 9, none⟩ = some (.int .i64 j) ∧ W.cell? ⟨w.heap.size, 10, none⟩ = some (.int .i64 (wrap64 (k + 1)))) (((repeat' apply And.intro); all_goals (go_simp; done))) (first | (go_at_call 28; refine (rquestion_yes _ _ _ _ _ _ _ _ _ _ _ (by first | assumption | omega) _).mono ?_; rintro e w' ⟨rfl, rfl⟩))
  go_wp2
  refine bodyPost_ret (v := .tuple #[(Value.agg #[.int .i64 2, .int .i64 b, .int .u32 c, .int .u32 d, .int .u32 e, .int .u32 f, .int .i64 g, .int .i64 h, .int .u8 i, .int .i64 j, .int .i64 (wrap64 (k + 1))]), .slice (some ⟨w.heap.size + 1 + 1 + 1, 0, none⟩) 1 1]) (by simp [results, Try.results15, go_sem]) rfl ⟨_, rfl, Segs.one (hd c 0 2 (askv b)) (by first | (simp; done) | (simp; omega) | omega) (by repeat (first | exact heap_new (by simp) | refine heap_alloc ?_ _ | refine heap_drew ?_)), (by repeat (first | exact Below.refl _ _ | refine Below.drew ?_ | refine below_drewN ?_ _ | refine Below.alloc ?_ (by first | (simp; done) | (simp; omega)) _))⟩

set_option maxHeartbeats 1000000 in
theorem rtimeout_2_n (b c d e f g h i j k : Int) (hk : k < 6) (hq : ¬ wrap64 (k + 1) < 2) (w : World) : Calls Try.prog 15 #[(Value.agg #[.int .i64 2, .int .i64 b, .int .u32 c, .int .u32 d, .int .u32 e, .int .u32 f, .int .i64 g, .int .i64 h, .int .u8 i, .int .i64 j, .int .i64 k])] w (CPost w (timeout ⟨2, b, c, d, e, f, g, h, i, j, k⟩)) := by
  have hr : timeout ⟨2, b, c, d, e, f, g, h, i, j, k⟩ = (⟨2, b, c, d, e, f, g, h, i, j, wrap64 (k + 1)⟩, [(hd c 0 2 0)]) := by (have h6 : ¬ 6 ≤ k := (by omega)); simp [timeout, h6, hq]
  rw [hr]; clear hr
  go_enter Try.func15, Try.ntmps15
  go_wp2
  go_region_held3 (fun W => W.cell? ⟨w.heap.size, 0, none⟩ = some (.int .i64 2) ∧ W.cell? ⟨w.heap.size, 1, none⟩ = some (.int .i64 b) ∧ W.cell? ⟨w.heap.size, 2, none⟩ = some (.int .u32 c) ∧ W.cell? ⟨w.heap.size, 3, none⟩ = some (.int .u32 d) ∧ W.cell? ⟨w.heap.size, 4, none⟩ = some (.int .u32 e) ∧ W.cell? ⟨w.heap.size, 5, none⟩ = some (.int .u32 f) ∧ W.cell? ⟨w.heap.size, 6, none⟩ = some (.int .i64 g) ∧ W.cell? ⟨w.heap.size, 7, none⟩ = some (.int .i64 h) ∧ W.cell? ⟨w.heap.size, 8, none⟩ = some (.int .u8 i) ∧ W.cell? ⟨w.heap.size, 9, none⟩ = some (.int .i64 j) ∧ W.cell? ⟨w.heap.size, 10, none⟩ = some (.int .i64 (wrap64 (k + 1)))) (((repeat' apply And.intro); all_goals (go_simp; done))) (first | (go_at_call 28; refine (rquestion_no _ _ _ _ _ _ _ _ _ _ _ (by first | assumption | omega) _).mono ?_; rintro e w' ⟨rfl, rfl⟩))
  go_wp2
  refine bodyPost_ret (v := .tuple #[(Value.agg #[.int .i64 2, .int .i64 b, .int .u32 c, .int .u32 d, .int .u32 e, .int .u32 f, .int .i64 g, .int .i64 h, .int .u8 i, .int .i64 j, .int .i64 (wrap64 (k + 1))]), .slice (some ⟨w.heap.size + 1 + 1 + 1, 0, none⟩) 1 1]) (by simp [results, Try.results15, go_sem]) rfl ⟨_, rfl, Segs.one (hd c 0 2 0) (by first | (simp; done) | (simp; omega) | omega) (by repeat (first | exact heap_new (by simp) | refine heap_alloc ?_ _ | refine heap_drew ?_)), (by repeat (first | exact Below.refl _ _ | refine Below.drew ?_ | refine below_drewN ?_ _ | refine Below.alloc ?_ (by first | (simp; done) | (simp; omega)) _))⟩

set_option maxHeartbeats 1000000 in
theorem rtimeout_3_rst (b c d e f g h i j k : Int) (hk : 6 ≤ k) (w : World) : Calls Try.prog 15 #[(Value.agg #[.int .i64 3, .int .i64 b, .int .u32 c, .int .u32 d, .int .u32 e, .int .u32 f, .int .i64 g, .int .i64 h, .int .u8 i, .int .i64 j, .int .i64 k])] w (CPost w (timeout ⟨3, b, c, d, e, f, g, h, i, j, k⟩)) := by
  have hr : timeout ⟨3, b, c, d, e, f, g, h, i, j, k⟩ = (⟨0, b, c, d, e, f, g, h, i, j, k⟩, [(hd e f 20 0)]) := by simp [timeout, *]
  rw [hr]; clear hr
  go_enter Try.func15, Try.ntmps15
  go_wp2
  go_region_held3 (fun W => W.cell? ⟨w.heap.size, 0, none⟩ = some (.int .i64 0) ∧ W.cell? ⟨w.heap.size, 1, none⟩ = some (.int .i64 b) ∧ W.cell? ⟨w.heap.size, 2, none⟩ = some (.int .u32 c) ∧ W.cell? ⟨w.heap.size, 3, none⟩ = some (.int .u32 d) ∧ W.cell? ⟨w.heap.size, 4, none⟩ = some (.int .u32 e) ∧ W.cell? ⟨w.heap.size, 5, none⟩ = some (.int .u32 f) ∧ W.cell? ⟨w.heap.size, 6, none⟩ = some (.int .i64 g) ∧ W.cell? ⟨w.heap.size, 7, none⟩ = some (.int .i64 h) ∧ W.cell? ⟨w.heap.size, 8, none⟩ = some (.int .u8 i) ∧ W.cell? ⟨w.heap.size, 9, none⟩ = some (.int .i64 j) ∧ W.cell? ⟨w.heap.size, 10, none⟩ = some (.int .i64 k)) (((repeat' apply And.intro); all_goals (go_simp; done))) (first | (go_at_call 29; refine (seg_calls _ _ _ _ _).mono ?_; rintro e w' ⟨rfl, rfl⟩))
  go_wp2
  refine bodyPost_ret (v := .tuple #[(Value.agg #[.int .i64 0, .int .i64 b, .int .u32 c, .int .u32 d, .int .u32 e, .int .u32 f, .int .i64 g, .int .i64 h, .int .u8 i, .int .i64 j, .int .i64 k]), .slice (some ⟨w.heap.size + 1 + 1, 0, none⟩) 1 1]) (by simp [results, Try.results15, go_sem]) rfl ⟨_, rfl, Segs.one (hd e f 20 0) (by first | (simp; done) | (simp; omega) | omega) (by repeat (first | exact heap_new (by simp) | refine heap_alloc ?_ _ | refine heap_drew ?_)), (by repeat (first | exact Below.refl _ _ | refine Below.drew ?_ | refine below_drewN ?_ _ | refine Below.alloc ?_ (by first | (simp; done) | (simp; omega)) _))⟩

set_option maxHeartbeats 1000000 in
theorem rtimeout_3_on (b c d e f g h i j k : Int) (hk : k < 6) (w : World) : Calls Try.prog 15 #[(Value.agg #[.int .i64 3, .int .i64 b, .int .u32 c, .int .u32 d, .int .u32 e, .int .u32 f, .int .i64 g, .int .i64 h, .int .u8 i, .int .i64 j, .int .i64 k])] w (CPost w (timeout ⟨3, b, c, d, e, f, g, h, i, j, k⟩)) := by
  have hr : timeout ⟨3, b, c, d, e, f, g, h, i, j, k⟩ = (⟨3, b, c, d, e, f, g, h, i, j, wrap64 (k + 1)⟩, [(hd c f 18 i)]) := by (have h6 : ¬ 6 ≤ k := (by omega)); simp [timeout, h6]
  rw [hr]; clear hr
  go_enter Try.func15, Try.ntmps15
  go_wp2
  go_region_held3 (fun W => W.cell? ⟨w.heap.size, 0, none⟩ = some (.int .i64 3) ∧ W.cell? ⟨w.heap.size, 1, none⟩ = some (.int .i64 b) ∧ W.cell? ⟨w.heap.size, 2, none⟩ = some (.int .u32 c) ∧ W.cell? ⟨w.heap.size, 3, none⟩ = some (.int .u32 d) ∧ W.cell? ⟨w.heap.size, 4, none⟩ = some (.int .u32 e) ∧ W.cell? ⟨w.heap.size, 5, none⟩ = some (.int .u32 f) ∧ W.cell? ⟨w.heap.size, 6, none⟩ = some (.int .i64 g) ∧ W.cell? ⟨w.heap.size, 7, none⟩ = some (.int .i64 h) ∧ W.cell? ⟨w.heap.size, 8, none⟩ = some (.int .u8 i) ∧ W.cell? ⟨w.heap.size, 9, none⟩ = some (.int .i64 j) ∧ W.cell? ⟨w.heap.size, 10, none⟩ = some (.int .i64 (wrap64 (k + 1)))) (((repeat' apply And.intro); all_goals (go_simp; done))) (first | (go_at_call 29; refine (seg_calls _ _ _ _ _).mono ?_; rintro e w' ⟨rfl, rfl⟩))
  go_wp2
  refine bodyPost_ret (v := .tuple #[(Value.agg #[.int .i64 3, .int .i64 b, .int .u32 c, .int .u32 d, .int .u32 e, .int .u32 f, .int .i64 g, .int .i64 h, .int .u8 i, .int .i64 j, .int .i64 (wrap64 (k + 1))]), .slice (some ⟨w.heap.size + 1 + 1, 0, none⟩) 1 1]) (by simp [results, Try.results15, go_sem]) rfl ⟨_, rfl, Segs.one (hd c f 18 i) (by first | (simp; done) | (simp; omega) | omega) (by repeat (first | exact heap_new (by simp) | refine heap_alloc ?_ _ | refine heap_drew ?_)), (by repeat (first | exact Below.refl _ _ | refine Below.drew ?_ | refine below_drewN ?_ _ | refine Below.alloc ?_ (by first | (simp; done) | (simp; omega)) _))⟩

set_option maxHeartbeats 1000000 in
theorem rtimeout_5_rst (b c d e f g h i j k : Int) (hk : 6 ≤ k) (w : World) : Calls Try.prog 15 #[(Value.agg #[.int .i64 5, .int .i64 b, .int .u32 c, .int .u32 d, .int .u32 e, .int .u32 f, .int .i64 g, .int .i64 h, .int .u8 i, .int .i64 j, .int .i64 k])] w (CPost w (timeout ⟨5, b, c, d, e, f, g, h, i, j, k⟩)) := by
  have hr : timeout ⟨5, b, c, d, e, f, g, h, i, j, k⟩ = (⟨0, b, c, d, e, f, g, h, i, j, k⟩, [(hd e f 20 0)]) := by simp [timeout, *]
  rw [hr]; clear hr
  go_enter Try.func15, Try.ntmps15
  go_wp2
  go_region_held3 (fun W => W.cell? ⟨w.heap.size, 0, none⟩ = some (.int .i64 0) ∧ W.cell? ⟨w.heap.size, 1, none⟩ = some (.int .i64 b) ∧ W.cell? ⟨w.heap.size, 2, none⟩ = some (.int .u32 c) ∧ W.cell? ⟨w.heap.size, 3, none⟩ = some (.int .u32 d) ∧ W.cell? ⟨w.heap.size, 4, none⟩ = some (.int .u32 e) ∧ W.cell? ⟨w.heap.size, 5, none⟩ = some (.int .u32 f) ∧ W.cell? ⟨w.heap.size, 6, none⟩ = some (.int .i64 g) ∧ W.cell? ⟨w.heap.size, 7, none⟩ = some (.int .i64 h) ∧ W.cell? ⟨w.heap.size, 8, none⟩ = some (.int .u8 i) ∧ W.cell? ⟨w.heap.size, 9, none⟩ = some (.int .i64 j) ∧ W.cell? ⟨w.heap.size, 10, none⟩ = some (.int .i64 k)) (((repeat' apply And.intro); all_goals (go_simp; done))) (first | (go_at_call 29; refine (seg_calls _ _ _ _ _).mono ?_; rintro e w' ⟨rfl, rfl⟩))
  go_wp2
  refine bodyPost_ret (v := .tuple #[(Value.agg #[.int .i64 0, .int .i64 b, .int .u32 c, .int .u32 d, .int .u32 e, .int .u32 f, .int .i64 g, .int .i64 h, .int .u8 i, .int .i64 j, .int .i64 k]), .slice (some ⟨w.heap.size + 1 + 1, 0, none⟩) 1 1]) (by simp [results, Try.results15, go_sem]) rfl ⟨_, rfl, Segs.one (hd e f 20 0) (by first | (simp; done) | (simp; omega) | omega) (by repeat (first | exact heap_new (by simp) | refine heap_alloc ?_ _ | refine heap_drew ?_)), (by repeat (first | exact Below.refl _ _ | refine Below.drew ?_ | refine below_drewN ?_ _ | refine Below.alloc ?_ (by first | (simp; done) | (simp; omega)) _))⟩

set_option maxHeartbeats 1000000 in
theorem rtimeout_5_on (b c d e f g h i j k : Int) (hk : k < 6) (w : World) : Calls Try.prog 15 #[(Value.agg #[.int .i64 5, .int .i64 b, .int .u32 c, .int .u32 d, .int .u32 e, .int .u32 f, .int .i64 g, .int .i64 h, .int .u8 i, .int .i64 j, .int .i64 k])] w (CPost w (timeout ⟨5, b, c, d, e, f, g, h, i, j, k⟩)) := by
  have hr : timeout ⟨5, b, c, d, e, f, g, h, i, j, k⟩ = (⟨5, b, c, d, e, f, g, h, i, j, wrap64 (k + 1)⟩, [(hd ((e - 1) % 4294967296) f 17 0)]) := by (have h6 : ¬ 6 ≤ k := (by omega)); simp [timeout, h6]
  rw [hr]; clear hr
  go_enter Try.func15, Try.ntmps15
  go_wp2
  go_region_held3 (fun W => W.cell? ⟨w.heap.size, 0, none⟩ = some (.int .i64 5) ∧ W.cell? ⟨w.heap.size, 1, none⟩ = some (.int .i64 b) ∧ W.cell? ⟨w.heap.size, 2, none⟩ = some (.int .u32 c) ∧ W.cell? ⟨w.heap.size, 3, none⟩ = some (.int .u32 d) ∧ W.cell? ⟨w.heap.size, 4, none⟩ = some (.int .u32 e) ∧ W.cell? ⟨w.heap.size, 5, none⟩ = some (.int .u32 f) ∧ W.cell? ⟨w.heap.size, 6, none⟩ = some (.int .i64 g) ∧ W.cell? ⟨w.heap.size, 7, none⟩ = some (.int .i64 h) ∧ W.cell? ⟨w.heap.size, 8, none⟩ = some (.int .u8 i) ∧ W.cell? ⟨w.heap.size, 9, none⟩ = some (.int .i64 j) ∧ W.cell? ⟨w.heap.size, 10, none⟩ = some (.int .i64 (wrap64 (k + 1)))) (((repeat' apply And.intro); all_goals (go_simp; done))) (first | (go_at_call 29; refine (seg_calls _ _ _ _ _).mono ?_; rintro e w' ⟨rfl, rfl⟩))
  go_wp2
  rw [wrap_u32]
  refine bodyPost_ret (v := .tuple #[(Value.agg #[.int .i64 5, .int .i64 b, .int .u32 c, .int .u32 d, .int .u32 e, .int .u32 f, .int .i64 g, .int .i64 h, .int .u8 i, .int .i64 j, .int .i64 (wrap64 (k + 1))]), .slice (some ⟨w.heap.size + 1 + 1, 0, none⟩) 1 1]) (by simp [results, Try.results15, go_sem]) rfl ⟨_, rfl, Segs.one (hd ((e - 1) % 4294967296) f 17 0) (by first | (simp; done) | (simp; omega) | omega) (by repeat (first | exact heap_new (by simp) | refine heap_alloc ?_ _ | refine heap_drew ?_)), (by repeat (first | exact Below.refl _ _ | refine Below.drew ?_ | refine below_drewN ?_ _ | refine Below.alloc ?_ (by first | (simp; done) | (simp; omega)) _))⟩

set_option maxHeartbeats 1000000 in
theorem rtimeout_7_rst (b c d e f g h i j k : Int) (hk : 6 ≤ k) (w : World) : Calls Try.prog 15 #[(Value.agg #[.int .i64 7, .int .i64 b, .int .u32 c, .int .u32 d, .int .u32 e, .int .u32 f, .int .i64 g, .int .i64 h, .int .u8 i, .int .i64 j, .int .i64 k])] w (CPost w (timeout ⟨7, b, c, d, e, f, g, h, i, j, k⟩)) := by
  have hr : timeout ⟨7, b, c, d, e, f, g, h, i, j, k⟩ = (⟨0, b, c, d, e, f, g, h, i, j, k⟩, [(hd e f 20 0)]) := by simp [timeout, *]
  rw [hr]; clear hr
  go_enter Try.func15, Try.ntmps15
  go_wp2
  go_region_held3 (fun W => W.cell? ⟨w.heap.size, 0, none⟩ = some (.int .i64 0) ∧ W.cell? ⟨w.heap.size, 1, none⟩ = some (.int .i64 b) ∧ W.cell? ⟨w.heap.size, 2, none⟩ = some (.int .u32 c) ∧ W.cell? ⟨w.heap.size, 3, none⟩ = some (.int .u32 d) ∧ W.cell? ⟨w.heap.size, 4, none⟩ = some (.int .u32 e) ∧ W.cell? ⟨w.heap.size, 5, none⟩ = some (.int .u32 f) ∧ W.cell? ⟨w.heap.size, 6, none⟩ = some (.int .i64 g) ∧ W.cell? ⟨w.heap.size, 7, none⟩ = some (.int .i64 h) ∧ W.cell? ⟨w.heap.size, 8, none⟩ = some (.int .u8 i) ∧ W.cell? ⟨w.heap.size, 9, none⟩ = some (.int .i64 j) ∧ W.cell? ⟨w.heap.size, 10, none⟩ = some (.int .i64 k)) (((repeat' apply And.intro); all_goals (go_simp; done))) (first | (go_at_call 29; refine (seg_calls _ _ _ _ _).mono ?_; rintro e w' ⟨rfl, rfl⟩))
  go_wp2
  refine bodyPost_ret (v := .tuple #[(Value.agg #[.int .i64 0, .int .i64 b, .int .u32 c, .int .u32 d, .int .u32 e, .int .u32 f, .int .i64 g, .int .i64 h, .int .u8 i, .int .i64 j, .int .i64 k]), .slice (some ⟨w.heap.size + 1 + 1, 0, none⟩) 1 1]) (by simp [results, Try.results15, go_sem]) rfl ⟨_, rfl, Segs.one (hd e f 20 0) (by first | (simp; done) | (simp; omega) | omega) (by repeat (first | exact heap_new (by simp) | refine heap_alloc ?_ _ | refine heap_drew ?_)), (by repeat (first | exact Below.refl _ _ | refine Below.drew ?_ | refine below_drewN ?_ _ | refine Below.alloc ?_ (by first | (simp; done) | (simp; omega)) _))⟩

set_option maxHeartbeats 1000000 in
theorem rtimeout_7_on (b c d e f g h i j k : Int) (hk : k < 6) (w : World) : Calls Try.prog 15 #[(Value.agg #[.int .i64 7, .int .i64 b, .int .u32 c, .int .u32 d, .int .u32 e, .int .u32 f, .int .i64 g, .int .i64 h, .int .u8 i, .int .i64 j, .int .i64 k])] w (CPost w (timeout ⟨7, b, c, d, e, f, g, h, i, j, k⟩)) := by
  have hr : timeout ⟨7, b, c, d, e, f, g, h, i, j, k⟩ = (⟨7, b, c, d, e, f, g, h, i, j, wrap64 (k + 1)⟩, [(hd ((e - 1) % 4294967296) f 17 0)]) := by (have h6 : ¬ 6 ≤ k := (by omega)); simp [timeout, h6]
  rw [hr]; clear hr
  go_enter Try.func15, Try.ntmps15
  go_wp2
  go_region_held3 (fun W => W.cell? ⟨w.heap.size, 0, none⟩ = some (.int .i64 7) ∧ W.cell? ⟨w.heap.size, 1, none⟩ = some (.int .i64 b) ∧ W.cell? ⟨w.heap.size, 2, none⟩ = some (.int .u32 c) ∧ W.cell? ⟨w.heap.size, 3, none⟩ = some (.int .u32 d) ∧ W.cell? ⟨w.heap.size, 4, none⟩ = some (.int .u32 e) ∧ W.cell? ⟨w.heap.size, 5, none⟩ = some (.int .u32 f) ∧ W.cell? ⟨w.heap.size, 6, none⟩ = some (.int .i64 g) ∧ W.cell? ⟨w.heap.size, 7, none⟩ = some (.int .i64 h) ∧ W.cell? ⟨w.heap.size, 8, none⟩ = some (.int .u8 i) ∧ W.cell? ⟨w.heap.size, 9, none⟩ = some (.int .i64 j) ∧ W.cell? ⟨w.heap.size, 10, none⟩ = some (.int .i64 (wrap64 (k + 1)))) (((repeat' apply And.intro); all_goals (go_simp; done))) (first | (go_at_call 29; refine (seg_calls _ _ _ _ _).mono ?_; rintro e w' ⟨rfl, rfl⟩))
  go_wp2
  rw [wrap_u32]
  refine bodyPost_ret (v := .tuple #[(Value.agg #[.int .i64 7, .int .i64 b, .int .u32 c, .int .u32 d, .int .u32 e, .int .u32 f, .int .i64 g, .int .i64 h, .int .u8 i, .int .i64 j, .int .i64 (wrap64 (k + 1))]), .slice (some ⟨w.heap.size + 1 + 1, 0, none⟩) 1 1]) (by simp [results, Try.results15, go_sem]) rfl ⟨_, rfl, Segs.one (hd ((e - 1) % 4294967296) f 17 0) (by first | (simp; done) | (simp; omega) | omega) (by repeat (first | exact heap_new (by simp) | refine heap_alloc ?_ _ | refine heap_drew ?_)), (by repeat (first | exact Below.refl _ _ | refine Below.drew ?_ | refine below_drewN ?_ _ | refine Below.alloc ?_ (by first | (simp; done) | (simp; omega)) _))⟩

set_option maxHeartbeats 1000000 in
theorem rtimeout_10_rst (b c d e f g h i j k : Int) (hk : 6 ≤ k) (w : World) : Calls Try.prog 15 #[(Value.agg #[.int .i64 10, .int .i64 b, .int .u32 c, .int .u32 d, .int .u32 e, .int .u32 f, .int .i64 g, .int .i64 h, .int .u8 i, .int .i64 j, .int .i64 k])] w (CPost w (timeout ⟨10, b, c, d, e, f, g, h, i, j, k⟩)) := by
  have hr : timeout ⟨10, b, c, d, e, f, g, h, i, j, k⟩ = (⟨0, b, c, d, e, f, g, h, i, j, k⟩, [(hd e f 20 0)]) := by simp [timeout, *]
  rw [hr]; clear hr
  go_enter Try.func15, Try.ntmps15
  go_wp2
  go_region_held3 (fun W => W.cell? ⟨w.heap.size, 0, none⟩ = some (.int .i64 0) ∧ W.cell? ⟨w.heap.size, 1, none⟩ = some (.int .i64 b) ∧ W.cell? ⟨w.heap.size, 2, none⟩ = some (.int .u32 c) ∧ W.cell? ⟨w.heap.size, 3, none⟩ = some (.int .u32 d) ∧ W.cell? ⟨w.heap.size, 4, none⟩ = some (.int .u32 e) ∧ W.cell? ⟨w.heap.size, 5, none⟩ = some (.int .u32 f) ∧ W.cell? ⟨w.heap.size, 6, none⟩ = some (.int .i64 g) ∧ W.cell? ⟨w.heap.size, 7, none⟩ = some (.int .i64 h) ∧ W.cell? ⟨w.heap.size, 8, none⟩ = some (.int .u8 i) ∧ W.cell? ⟨w.heap.size, 9, none⟩ = some (.int .i64 j) ∧ W.cell? ⟨w.heap.size, 10, none⟩ = some (.int .i64 k)) (((repeat' apply And.intro); all_goals (go_simp; done))) (first | (go_at_call 29; refine (seg_calls _ _ _ _ _).mono ?_; rintro e w' ⟨rfl, rfl⟩))
  go_wp2
  refine bodyPost_ret (v := .tuple #[(Value.agg #[.int .i64 0, .int .i64 b, .int .u32 c, .int .u32 d, .int .u32 e, .int .u32 f, .int .i64 g, .int .i64 h, .int .u8 i, .int .i64 j, .int .i64 k]), .slice (some ⟨w.heap.size + 1 + 1, 0, none⟩) 1 1]) (by simp [results, Try.results15, go_sem]) rfl ⟨_, rfl, Segs.one (hd e f 20 0) (by first | (simp; done) | (simp; omega) | omega) (by repeat (first | exact heap_new (by simp) | refine heap_alloc ?_ _ | refine heap_drew ?_)), (by repeat (first | exact Below.refl _ _ | refine Below.drew ?_ | refine below_drewN ?_ _ | refine Below.alloc ?_ (by first | (simp; done) | (simp; omega)) _))⟩

set_option maxHeartbeats 1000000 in
theorem rtimeout_10_on (b c d e f g h i j k : Int) (hk : k < 6) (w : World) : Calls Try.prog 15 #[(Value.agg #[.int .i64 10, .int .i64 b, .int .u32 c, .int .u32 d, .int .u32 e, .int .u32 f, .int .i64 g, .int .i64 h, .int .u8 i, .int .i64 j, .int .i64 k])] w (CPost w (timeout ⟨10, b, c, d, e, f, g, h, i, j, k⟩)) := by
  have hr : timeout ⟨10, b, c, d, e, f, g, h, i, j, k⟩ = (⟨10, b, c, d, e, f, g, h, i, j, wrap64 (k + 1)⟩, [(hd ((e - 1) % 4294967296) f 17 0)]) := by (have h6 : ¬ 6 ≤ k := (by omega)); simp [timeout, h6]
  rw [hr]; clear hr
  go_enter Try.func15, Try.ntmps15
  go_wp2
  go_region_held3 (fun W => W.cell? ⟨w.heap.size, 0, none⟩ = some (.int .i64 10) ∧ W.cell? ⟨w.heap.size, 1, none⟩ = some (.int .i64 b) ∧ W.cell? ⟨w.heap.size, 2, none⟩ = some (.int .u32 c) ∧ W.cell? ⟨w.heap.size, 3, none⟩ = some (.int .u32 d) ∧ W.cell? ⟨w.heap.size, 4, none⟩ = some (.int .u32 e) ∧ W.cell? ⟨w.heap.size, 5, none⟩ = some (.int .u32 f) ∧ W.cell? ⟨w.heap.size, 6, none⟩ = some (.int .i64 g) ∧ W.cell? ⟨w.heap.size, 7, none⟩ = some (.int .i64 h) ∧ W.cell? ⟨w.heap.size, 8, none⟩ = some (.int .u8 i) ∧ W.cell? ⟨w.heap.size, 9, none⟩ = some (.int .i64 j) ∧ W.cell? ⟨w.heap.size, 10, none⟩ = some (.int .i64 (wrap64 (k + 1)))) (((repeat' apply And.intro); all_goals (go_simp; done))) (first | (go_at_call 29; refine (seg_calls _ _ _ _ _).mono ?_; rintro e w' ⟨rfl, rfl⟩))
  go_wp2
  rw [wrap_u32]
  refine bodyPost_ret (v := .tuple #[(Value.agg #[.int .i64 10, .int .i64 b, .int .u32 c, .int .u32 d, .int .u32 e, .int .u32 f, .int .i64 g, .int .i64 h, .int .u8 i, .int .i64 j, .int .i64 (wrap64 (k + 1))]), .slice (some ⟨w.heap.size + 1 + 1, 0, none⟩) 1 1]) (by simp [results, Try.results15, go_sem]) rfl ⟨_, rfl, Segs.one (hd ((e - 1) % 4294967296) f 17 0) (by first | (simp; done) | (simp; omega) | omega) (by repeat (first | exact heap_new (by simp) | refine heap_alloc ?_ _ | refine heap_drew ?_)), (by repeat (first | exact Below.refl _ _ | refine Below.drew ?_ | refine below_drewN ?_ _ | refine Below.alloc ?_ (by first | (simp; done) | (simp; omega)) _))⟩

end Go.Proofs.Ytbklomnlhpbhnaa
