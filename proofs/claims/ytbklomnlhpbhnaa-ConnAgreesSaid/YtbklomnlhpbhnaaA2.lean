import Derived.Test.YtbklomnlhpbhnaaProg
import Derived.WalkKit
import Derived.KernelRfl
import Derived.Below
import Derived.Outline
import Derived.BigQuiet
import Derived.WalkSmall
import Derived.Deep.QuietTactic
import Derived.Deep.RegionWith
import Derived.Deep.RegionHeld3
import Derived.Laws.AppendOwn
import Derived.Lib.Hide
namespace Go.Proofs.Ytbklomnlhpbhnaa
open Go.RowKit

/-- An end, a segment, as plain data. -/
structure C where
  st : Int
  want : Int
  iss : Int
  una : Int
  nxt : Int
  rcv : Int
  mode : Int
  code : Int
  reply : Int
  start : Int
  tries : Int
structure H where
  src : Int
  dst : Int
  seq : Int
  ack : Int
  off : Int
  ace : Int
  flags : Int
  win : Int
  sum : Int
  urg : Int
@[reducible] def hd (s a f n : Int) : H := ⟨0, 0, s, a, 5, n, f, 0, 0, 0⟩
def C.cells (x : C) : List Value := [.int .i64 x.st, .int .i64 x.want, .int .u32 x.iss, .int .u32 x.una, .int .u32 x.nxt, .int .u32 x.rcv, .int .i64 x.mode, .int .i64 x.code, .int .u8 x.reply, .int .i64 x.start, .int .i64 x.tries]
def H.cells (x : H) : List Value := [.int .u16 x.src, .int .u16 x.dst, .int .u32 x.seq, .int .u32 x.ack, .int .u8 x.off, .int .u8 x.ace, .int .u8 x.flags, .int .u16 x.win, .int .u16 x.sum, .int .u16 x.urg]
@[reducible] def C.v (x : C) : Value := .agg #[.int .i64 x.st, .int .i64 x.want, .int .u32 x.iss, .int .u32 x.una, .int .u32 x.nxt, .int .u32 x.rcv, .int .i64 x.mode, .int .i64 x.code, .int .u8 x.reply, .int .i64 x.start, .int .i64 x.tries]
@[reducible] def H.v (x : H) : Value := .agg #[.int .u16 x.src, .int .u16 x.dst, .int .u32 x.seq, .int .u32 x.ack, .int .u8 x.off, .int .u8 x.ace, .int .u8 x.flags, .int .u16 x.win, .int .u16 x.sum, .int .u16 x.urg]
/-- A list of segments of the call's own. -/
def Segs (w : World) (B : Nat) (v : Value) (l : List H) : Prop := w.ownsRow B 52 10 v l.length (l.flatMap H.cells)
theorem Segs.nil (w : World) (B : Nat) : Segs w B (.slice none 0 0) [] := ⟨rfl, .inl ⟨rfl, rfl⟩⟩
theorem Segs.one {w : World} {B g : Nat} (x : H) (hB : B ≤ g) (h : w.heap[g]? = some (.cells #[.int .u16 x.src, .int .u16 x.dst, .int .u32 x.seq, .int .u32 x.ack, .int .u8 x.off, .int .u8 x.ace, .int .u8 x.flags, .int .u16 x.win, .int .u16 x.sum, .int .u16 x.urg] 52 (0, 0))) : Segs w B (.slice (some ⟨g, 0, none⟩) 1 1) [x] :=
  ⟨rfl, .inr ⟨g, 1, _, rfl, hB, h, Nat.le_refl _, by unfold maxLen; omega, rfl, rfl⟩⟩
theorem heap_new {w : World} {o : Obj} {g : Nat} (h : g = w.heap.size) : (w.alloc o).heap[g]? = some o := by
  subst h
  show (w.heap.push o)[w.heap.size]? = some o
  simp
theorem heap_alloc {w : World} {o : Obj} {g : Nat} (h : w.heap[g]? = some o) (x : Obj) : (w.alloc x).heap[g]? = some o := by
  have hg : g < w.heap.size := by
    rcases Nat.lt_or_ge g w.heap.size with h' | h'
    · exact h'
    · simp [Array.getElem?_eq_none h'] at h
  rw [Below.heap_alloc w x g hg]
  exact h
theorem heap_drew {w : World} {o : Obj} {g : Nat} (h : w.heap[g]? = some o) : w.drew.heap[g]? = some o := h
/-- What a call that takes an end comes to: an end, and segments. -/
def CPost (w : World) (r : C × List H) (e : Ending) (w' : World) : Prop := ∃ v, e = .returned (.tuple #[r.1.v, v]) ∧ Segs w' w.heap.size v r.2 ∧ Below w.heap.size w w'
/-- What a call that hands back one value comes to, new memory aside. -/
def VPost (w : World) (v : Value) (e : Ending) (w' : World) : Prop := e = .returned v ∧ Below w.heap.size w w'
def askv (b : Int) : Int := if b ≥ 2 then 7 else if b = 1 then 3 else 0
def question (x : C) : H := hd x.iss 0 2 (if x.tries < 2 then askv x.want else 0)
def ask (x : C) : C × List H := if x.st = 0 then (⟨2, x.want, x.iss, x.iss, (x.iss + 1) % 4294967296, x.rcv, x.mode, x.code, x.reply, x.start, 0⟩, [hd x.iss 0 2 (askv x.want)]) else (x, [])
def close (x : C) : C × List H :=
  if x.st = 1 ∨ x.st = 2 then ({ x with st := 0 }, [])
  else if x.st = 3 ∨ x.st = 4 then ({ x with st := 5, nxt := (x.nxt + 1) % 4294967296, tries := 0 }, [hd (x.nxt % 4294967296) x.rcv 17 0])
  else if x.st = 9 then ({ x with st := 10, nxt := (x.nxt + 1) % 4294967296, tries := 0 }, [hd (x.nxt % 4294967296) x.rcv 17 0])
  else (x, [])
def timeout (x : C) : C × List H :=
  if x.st = 8 then ({ x with st := 0 }, [])
  else if x.st = 2 ∨ x.st = 3 ∨ x.st = 5 ∨ x.st = 7 ∨ x.st = 10 then
    if 6 ≤ x.tries then ({ x with st := 0 }, [hd x.nxt x.rcv 20 0])
    else ({ x with tries := wrap64 (x.tries + 1) }, [if x.st = 2 then hd x.iss 0 2 (if wrap64 (x.tries + 1) < 2 then askv x.want else 0) else if x.st = 3 then hd x.iss x.rcv 18 x.reply else hd ((x.nxt - 1) % 4294967296) x.rcv 17 0])
  else (x, [])

set_option maxHeartbeats 400000 in
theorem end_calls (a b c d e f g h i j k : Int) (w : World) : Calls Try.prog 22 #[(Value.agg #[.int .i64 a, .int .i64 b, .int .u32 c, .int .u32 d, .int .u32 e, .int .u32 f, .int .i64 g, .int .i64 h, .int .u8 i, .int .i64 j, .int .i64 k])] w fun e_ w' => e_ = .returned (Value.agg #[.int .u16 0, .int .u16 0, .int .u32 ((e - 1) % 4294967296), .int .u32 f, .int .u8 5, .int .u8 0, .int .u8 17, .int .u16 0, .int .u16 0, .int .u16 0]) ∧ w' = (w.alloc (Obj.cells #[.int .i64 a, .int .i64 b, .int .u32 c, .int .u32 d, .int .u32 e, .int .u32 f, .int .i64 g, .int .i64 h, .int .u8 i, .int .i64 j, .int .i64 k] 27)).alloc (Obj.cells #[.int .u16 0, .int .u16 0, .int .u32 ((e - 1) % 4294967296), .int .u32 f, .int .u8 5, .int .u8 0, .int .u8 17, .int .u16 0, .int .u16 0, .int .u16 0] 52) := by
  go_enter Try.func22, Try.ntmps22
  go_wp2
  exact bodyPost_ret (v := (Value.agg #[.int .u16 0, .int .u16 0, .int .u32 ((e - 1) % 4294967296), .int .u32 f, .int .u8 5, .int .u8 0, .int .u8 17, .int .u16 0, .int .u16 0, .int .u16 0])) (by simp [results, Try.results22, go_sem]) rfl ⟨rfl, rfl⟩

set_option maxHeartbeats 400000 in
theorem answer_calls (a b c d e f g h i j k : Int) (w : World) : Calls Try.prog 24 #[(Value.agg #[.int .i64 a, .int .i64 b, .int .u32 c, .int .u32 d, .int .u32 e, .int .u32 f, .int .i64 g, .int .i64 h, .int .u8 i, .int .i64 j, .int .i64 k])] w fun e_ w' => e_ = .returned (Value.agg #[.int .u16 0, .int .u16 0, .int .u32 c, .int .u32 f, .int .u8 5, .int .u8 i, .int .u8 18, .int .u16 0, .int .u16 0, .int .u16 0]) ∧ w' = (w.alloc (Obj.cells #[.int .i64 a, .int .i64 b, .int .u32 c, .int .u32 d, .int .u32 e, .int .u32 f, .int .i64 g, .int .i64 h, .int .u8 i, .int .i64 j, .int .i64 k] 27)).alloc (Obj.cells #[.int .u16 0, .int .u16 0, .int .u32 c, .int .u32 f, .int .u8 5, .int .u8 i, .int .u8 18, .int .u16 0, .int .u16 0, .int .u16 0] 52) := by
  go_enter Try.func24, Try.ntmps24
  go_wp2
  exact bodyPost_ret (v := (Value.agg #[.int .u16 0, .int .u16 0, .int .u32 c, .int .u32 f, .int .u8 5, .int .u8 i, .int .u8 18, .int .u16 0, .int .u16 0, .int .u16 0])) (by simp [results, Try.results24, go_sem]) rfl ⟨rfl, rfl⟩

set_option maxHeartbeats 400000 in
theorem ack_calls (a b c d e f g h i j k : Int) (w : World) : Calls Try.prog 25 #[(Value.agg #[.int .i64 a, .int .i64 b, .int .u32 c, .int .u32 d, .int .u32 e, .int .u32 f, .int .i64 g, .int .i64 h, .int .u8 i, .int .i64 j, .int .i64 k])] w fun e_ w' => e_ = .returned (Value.agg #[.int .u16 0, .int .u16 0, .int .u32 e, .int .u32 f, .int .u8 5, .int .u8 0, .int .u8 16, .int .u16 0, .int .u16 0, .int .u16 0]) ∧ w' = (w.alloc (Obj.cells #[.int .i64 a, .int .i64 b, .int .u32 c, .int .u32 d, .int .u32 e, .int .u32 f, .int .i64 g, .int .i64 h, .int .u8 i, .int .i64 j, .int .i64 k] 27)).alloc (Obj.cells #[.int .u16 0, .int .u16 0, .int .u32 e, .int .u32 f, .int .u8 5, .int .u8 0, .int .u8 16, .int .u16 0, .int .u16 0, .int .u16 0] 52) := by
  go_enter Try.func25, Try.ntmps25
  go_wp2
  exact bodyPost_ret (v := (Value.agg #[.int .u16 0, .int .u16 0, .int .u32 e, .int .u32 f, .int .u8 5, .int .u8 0, .int .u8 16, .int .u16 0, .int .u16 0, .int .u16 0])) (by simp [results, Try.results25, go_sem]) rfl ⟨rfl, rfl⟩

theorem say_calls (a : Option Addr) (n m : Nat) (w : World) : Calls Try.prog 26 #[.slice a n m] w fun e_ w' => e_ = .returned (.slice a n m) ∧ w' = w := by
  go_enter Try.func26, Try.ntmps26
  go_wp2
  go_ret
  exact ⟨rfl, rfl⟩
theorem nego_Ask_calls (a : Int) (w : World) : Calls Try.prog 30 #[.int .i64 a] w fun e w' => e = .returned (.int .u8 (askv a)) ∧ w' = w := by
  by_cases h : 2 ≤ a
  · have hr : askv a = 7 := by simp [askv, h]
    rw [hr]; clear hr
    go_enter Try.func30, Try.ntmps30; go_wp2; go_ret; exact ⟨rfl, rfl⟩
  by_cases h1 : a = 1
  · subst h1; go_enter Try.func30, Try.ntmps30; go_wp2; go_ret; exact ⟨rfl, rfl⟩
  · have hr : askv a = 0 := by simp [askv, h, h1]
    rw [hr]; clear hr
    go_enter Try.func30, Try.ntmps30; go_wp2; go_ret; exact ⟨rfl, rfl⟩
set_option maxHeartbeats 400000 in
theorem question_yes (a b c d e f g h i j k : Int) (hk : k < 2) (w : World) : Calls Try.prog 23 #[(Value.agg #[.int .i64 a, .int .i64 b, .int .u32 c, .int .u32 d, .int .u32 e, .int .u32 f, .int .i64 g, .int .i64 h, .int .u8 i, .int .i64 j, .int .i64 k])] w fun e_ w' => e_ = .returned (Value.agg #[.int .u16 0, .int .u16 0, .int .u32 c, .int .u32 0, .int .u8 5, .int .u8 (askv b), .int .u8 2, .int .u16 0, .int .u16 0, .int .u16 0]) ∧ w' = ((w.alloc (Obj.cells #[.int .i64 a, .int .i64 b, .int .u32 c, .int .u32 d, .int .u32 e, .int .u32 f, .int .i64 g, .int .i64 h, .int .u8 i, .int .i64 j, .int .i64 k] 27)).alloc (Obj.cells #[.int .u16 0, .int .u16 0, .int .u32 c, .int .u32 0, .int .u8 5, .int .u8 (askv b), .int .u8 2, .int .u16 0, .int .u16 0, .int .u16 0] 52)).alloc (Obj.cells #[.int .u16 0, .int .u16 0, .int .u32 c, .int .u32 0, .int .u8 5, .int .u8 (askv b), .int .u8 2, .int .u16 0, .int .u16 0, .int .u16 0] 52) := by
  generalize hq : askv b = q
  have Hq := Lib.hid hq; clear hq
  go_enter Try.func23, Try.ntmps23
  go_wp2_with (go_at_call 30; refine (nego_Ask_calls _ _).mono ?_; rintro e w' ⟨rfl, rfl⟩; rw [Hq.out])
  exact bodyPost_ret (v := (Value.agg #[.int .u16 0, .int .u16 0, .int .u32 c, .int .u32 0, .int .u8 5, .int .u8 q, .int .u8 2, .int .u16 0, .int .u16 0, .int .u16 0])) (by simp [results, Try.results23, go_sem]) rfl ⟨rfl, rfl⟩
set_option maxHeartbeats 400000 in
theorem question_no (a b c d e f g h i j k : Int) (hk : ¬ k < 2) (w : World) : Calls Try.prog 23 #[(Value.agg #[.int .i64 a, .int .i64 b, .int .u32 c, .int .u32 d, .int .u32 e, .int .u32 f, .int .i64 g, .int .i64 h, .int .u8 i, .int .i64 j, .int .i64 k])] w fun e_ w' => e_ = .returned (Value.agg #[.int .u16 0, .int .u16 0, .int .u32 c, .int .u32 0, .int .u8 5, .int .u8 0, .int .u8 2, .int .u16 0, .int .u16 0, .int .u16 0]) ∧ w' = ((w.alloc (Obj.cells #[.int .i64 a, .int .i64 b, .int .u32 c, .int .u32 d, .int .u32 e, .int .u32 f, .int .i64 g, .int .i64 h, .int .u8 i, .int .i64 j, .int .i64 k] 27)).alloc (Obj.cells #[.int .u16 0, .int .u16 0, .int .u32 c, .int .u32 0, .int .u8 5, .int .u8 0, .int .u8 2, .int .u16 0, .int .u16 0, .int .u16 0] 52)).alloc (Obj.cells #[.int .u16 0, .int .u16 0, .int .u32 c, .int .u32 0, .int .u8 5, .int .u8 0, .int .u8 2, .int .u16 0, .int .u16 0, .int .u16 0] 52) := by
  go_enter Try.func23, Try.ntmps23
  go_wp2
  exact bodyPost_ret (v := (Value.agg #[.int .u16 0, .int .u16 0, .int .u32 c, .int .u32 0, .int .u8 5, .int .u8 0, .int .u8 2, .int .u16 0, .int .u16 0, .int .u16 0])) (by simp [results, Try.results23, go_sem]) rfl ⟨rfl, rfl⟩

set_option maxHeartbeats 1000000 in
theorem ask_yes (b c d e f g h i j k : Int)  (w : World) : Calls Try.prog 11 #[(Value.agg #[.int .i64 0, .int .i64 b, .int .u32 c, .int .u32 d, .int .u32 e, .int .u32 f, .int .i64 g, .int .i64 h, .int .u8 i, .int .i64 j, .int .i64 k])] w (CPost w (ask ⟨0, b, c, d, e, f, g, h, i, j, k⟩)) := by
  have hr : ask ⟨0, b, c, d, e, f, g, h, i, j, k⟩ = (⟨2, b, c, c, (c + 1) % 4294967296, f, g, h, i, j, 0⟩, [(hd c 0 2 (askv b))]) := by simp [ask, *]
  rw [hr]; clear hr
  go_enter Try.func11, Try.ntmps11
  go_wp2
  go_region_held3 (fun W => W.cell? ⟨w.heap.size, 0, none⟩ = some (.int .i64 2) ∧ W.cell? ⟨w.heap.size, 1, none⟩ = some (.int .i64 b) ∧ W.cell? ⟨w.heap.size, 2, none⟩ = some (.int .u32 c) ∧ W.cell? ⟨w.heap.size, 3, none⟩ = some (.int .u32 c) ∧ W.cell? ⟨w.heap.size, 4, none⟩ = some (.int .u32 ((c + 1) % 4294967296)) ∧ W.cell? ⟨w.heap.size, 5, none⟩ = some (.int .u32 f) ∧ W.cell? ⟨w.heap.size, 6, none⟩ = some (.int .i64 g) ∧ W.cell? ⟨w.heap.size, 7, none⟩ = some (.int .i64 h) ∧ W.cell? ⟨w.heap.size, 8, none⟩ = some (.int .u8 i) ∧ W.cell? ⟨w.heap.size, 9, none⟩ = some (.int .i64 j) ∧ W.cell? ⟨w.heap.size, 10, none⟩ = some (.int .i64 0)) (((repeat' apply And.intro); all_goals (go_simp; done))) (first | (go_at_call 23; refine (question_yes _ _ _ _ _ _ _ _ _ _ _ (by first | assumption | omega) _).mono ?_; rintro e w' ⟨rfl, rfl⟩) | (go_at_call 26; refine (say_calls _ _ _ _).mono ?_; rintro e w' ⟨rfl, rfl⟩))
  go_wp2
  refine bodyPost_ret (v := .tuple #[(Value.agg #[.int .i64 2, .int .i64 b, .int .u32 c, .int .u32 c, .int .u32 ((c + 1) % 4294967296), .int .u32 f, .int .i64 g, .int .i64 h, .int .u8 i, .int .i64 j, .int .i64 0]), .slice (some ⟨w.heap.size + 1 + 1 + 1 + 1 + 1, 0, none⟩) 1 1]) (by simp [results, Try.results11, go_sem]) rfl ⟨_, rfl, Segs.one (hd c 0 2 (askv b)) (by first | (simp; done) | (simp; omega) | omega) (by repeat (first | exact heap_new (by simp) | refine heap_alloc ?_ _ | refine heap_drew ?_)), (by repeat (first | exact Below.refl _ _ | refine Below.drew ?_ | refine below_drewN ?_ _ | refine Below.alloc ?_ (by first | (simp; done) | (simp; omega)) _))⟩

set_option maxHeartbeats 1000000 in
theorem ask_no (a b c d e f g h i j k : Int) (h0 : ¬ a = 0) (w : World) : Calls Try.prog 11 #[(Value.agg #[.int .i64 a, .int .i64 b, .int .u32 c, .int .u32 d, .int .u32 e, .int .u32 f, .int .i64 g, .int .i64 h, .int .u8 i, .int .i64 j, .int .i64 k])] w (CPost w (ask ⟨a, b, c, d, e, f, g, h, i, j, k⟩)) := by
  have hr : ask ⟨a, b, c, d, e, f, g, h, i, j, k⟩ = (⟨a, b, c, d, e, f, g, h, i, j, k⟩, []) := by simp [ask, *]
  rw [hr]; clear hr
  go_enter Try.func11, Try.ntmps11
  go_wp2
  refine bodyPost_ret (v := .tuple #[(Value.agg #[.int .i64 a, .int .i64 b, .int .u32 c, .int .u32 d, .int .u32 e, .int .u32 f, .int .i64 g, .int .i64 h, .int .u8 i, .int .i64 j, .int .i64 k]), .slice none 0 0]) (by simp [results, Try.results11, go_sem]) rfl ⟨_, rfl, Segs.nil _ _, (by repeat (first | exact Below.refl _ _ | refine Below.drew ?_ | refine below_drewN ?_ _ | refine Below.alloc ?_ (by first | (simp; done) | (simp; omega)) _))⟩

set_option maxHeartbeats 1000000 in
theorem close_1 (b c d e f g h i j k : Int)  (w : World) : Calls Try.prog 13 #[(Value.agg #[.int .i64 1, .int .i64 b, .int .u32 c, .int .u32 d, .int .u32 e, .int .u32 f, .int .i64 g, .int .i64 h, .int .u8 i, .int .i64 j, .int .i64 k])] w (CPost w (close ⟨1, b, c, d, e, f, g, h, i, j, k⟩)) := by
  have hr : close ⟨1, b, c, d, e, f, g, h, i, j, k⟩ = (⟨0, b, c, d, e, f, g, h, i, j, k⟩, []) := by simp [close, *]
  rw [hr]; clear hr
  go_enter Try.func13, Try.ntmps13
  go_wp2
  refine bodyPost_ret (v := .tuple #[(Value.agg #[.int .i64 0, .int .i64 b, .int .u32 c, .int .u32 d, .int .u32 e, .int .u32 f, .int .i64 g, .int .i64 h, .int .u8 i, .int .i64 j, .int .i64 k]), .slice none 0 0]) (by simp [results, Try.results13, go_sem]) rfl ⟨_, rfl, Segs.nil _ _, (by repeat (first | exact Below.refl _ _ | refine Below.drew ?_ | refine below_drewN ?_ _ | refine Below.alloc ?_ (by first | (simp; done) | (simp; omega)) _))⟩

set_option maxHeartbeats 1000000 in
theorem close_2 (b c d e f g h i j k : Int)  (w : World) : Calls Try.prog 13 #[(Value.agg #[.int .i64 2, .int .i64 b, .int .u32 c, .int .u32 d, .int .u32 e, .int .u32 f, .int .i64 g, .int .i64 h, .int .u8 i, .int .i64 j, .int .i64 k])] w (CPost w (close ⟨2, b, c, d, e, f, g, h, i, j, k⟩)) := by
  have hr : close ⟨2, b, c, d, e, f, g, h, i, j, k⟩ = (⟨0, b, c, d, e, f, g, h, i, j, k⟩, []) := by simp [close, *]
  rw [hr]; clear hr
  go_enter Try.func13, Try.ntmps13
  go_wp2
  refine bodyPost_ret (v := .tuple #[(Value.agg #[.int .i64 0, .int .i64 b, .int .u32 c, .int .u32 d, .int .u32 e, .int .u32 f, .int .i64 g, .int .i64 h, .int .u8 i, .int .i64 j, .int .i64 k]), .slice none 0 0]) (by simp [results, Try.results13, go_sem]) rfl ⟨_, rfl, Segs.nil _ _, (by repeat (first | exact Below.refl _ _ | refine Below.drew ?_ | refine below_drewN ?_ _ | refine Below.alloc ?_ (by first | (simp; done) | (simp; omega)) _))⟩

set_option maxHeartbeats 1000000 in
theorem close_3 (b c d e f g h i j k : Int)  (w : World) : Calls Try.prog 13 #[(Value.agg #[.int .i64 3, .int .i64 b, .int .u32 c, .int .u32 d, .int .u32 e, .int .u32 f, .int .i64 g, .int .i64 h, .int .u8 i, .int .i64 j, .int .i64 k])] w (CPost w (close ⟨3, b, c, d, e, f, g, h, i, j, k⟩)) := by
  have hr : close ⟨3, b, c, d, e, f, g, h, i, j, k⟩ = (⟨5, b, c, d, (e + 1) % 4294967296, f, g, h, i, j, 0⟩, [(hd (e % 4294967296) f 17 0)]) := by simp [close, *]
  rw [hr]; clear hr
  go_enter Try.func13, Try.ntmps13
  go_wp2
  go_region_held3 (fun W => W.cell? ⟨w.heap.size, 0, none⟩ = some (.int .i64 5) ∧ W.cell? ⟨w.heap.size, 1, none⟩ = some (.int .i64 b) ∧ W.cell? ⟨w.heap.size, 2, none⟩ = some (.int .u32 c) ∧ W.cell? ⟨w.heap.size, 3, none⟩ = some (.int .u32 d) ∧ W.cell? ⟨w.heap.size, 4, none⟩ = some (.int .u32 ((e + 1) % 4294967296)) ∧ W.cell? ⟨w.heap.size, 5, none⟩ = some (.int .u32 f) ∧ W.cell? ⟨w.heap.size, 6, none⟩ = some (.int .i64 g) ∧ W.cell? ⟨w.heap.size, 7, none⟩ = some (.int .i64 h) ∧ W.cell? ⟨w.heap.size, 8, none⟩ = some (.int .u8 i) ∧ W.cell? ⟨w.heap.size, 9, none⟩ = some (.int .i64 j) ∧ W.cell? ⟨w.heap.size, 10, none⟩ = some (.int .i64 0)) (((repeat' apply And.intro); all_goals (go_simp; done))) (first | (go_at_call 22; refine (end_calls _ _ _ _ _ _ _ _ _ _ _ _).mono ?_; rintro e w' ⟨rfl, rfl⟩) | (go_at_call 26; refine (say_calls _ _ _ _).mono ?_; rintro e w' ⟨rfl, rfl⟩))
  go_wp2
  refine bodyPost_ret (v := .tuple #[(Value.agg #[.int .i64 5, .int .i64 b, .int .u32 c, .int .u32 d, .int .u32 ((e + 1) % 4294967296), .int .u32 f, .int .i64 g, .int .i64 h, .int .u8 i, .int .i64 j, .int .i64 0]), .slice (some ⟨w.heap.size + 1 + 1 + 1 + 1, 0, none⟩) 1 1]) (by simp [results, Try.results13, go_sem]) rfl ⟨_, rfl, Segs.one (hd (e % 4294967296) f 17 0) (by first | (simp; done) | (simp; omega) | omega) (by repeat (first | exact heap_new (by simp) | refine heap_alloc ?_ _ | refine heap_drew ?_)), (by repeat (first | exact Below.refl _ _ | refine Below.drew ?_ | refine below_drewN ?_ _ | refine Below.alloc ?_ (by first | (simp; done) | (simp; omega)) _))⟩

set_option maxHeartbeats 1000000 in
theorem close_4 (b c d e f g h i j k : Int)  (w : World) : Calls Try.prog 13 #[(Value.agg #[.int .i64 4, .int .i64 b, .int .u32 c, .int .u32 d, .int .u32 e, .int .u32 f, .int .i64 g, .int .i64 h, .int .u8 i, .int .i64 j, .int .i64 k])] w (CPost w (close ⟨4, b, c, d, e, f, g, h, i, j, k⟩)) := by
  have hr : close ⟨4, b, c, d, e, f, g, h, i, j, k⟩ = (⟨5, b, c, d, (e + 1) % 4294967296, f, g, h, i, j, 0⟩, [(hd (e % 4294967296) f 17 0)]) := by simp [close, *]
  rw [hr]; clear hr
  go_enter Try.func13, Try.ntmps13
  go_wp2
  go_region_held3 (fun W => W.cell? ⟨w.heap.size, 0, none⟩ = some (.int .i64 5) ∧ W.cell? ⟨w.heap.size, 1, none⟩ = some (.int .i64 b) ∧ W.cell? ⟨w.heap.size, 2, none⟩ = some (.int .u32 c) ∧ W.cell? ⟨w.heap.size, 3, none⟩ = some (.int .u32 d) ∧ W.cell? ⟨w.heap.size, 4, none⟩ = some (.int .u32 ((e + 1) % 4294967296)) ∧ W.cell? ⟨w.heap.size, 5, none⟩ = some (.int .u32 f) ∧ W.cell? ⟨w.heap.size, 6, none⟩ = some (.int .i64 g) ∧ W.cell? ⟨w.heap.size, 7, none⟩ = some (.int .i64 h) ∧ W.cell? ⟨w.heap.size, 8, none⟩ = some (.int .u8 i) ∧ W.cell? ⟨w.heap.size, 9, none⟩ = some (.int .i64 j) ∧ W.cell? ⟨w.heap.size, 10, none⟩ = some (.int .i64 0)) (((repeat' apply And.intro); all_goals (go_simp; done))) (first | (go_at_call 22; refine (end_calls _ _ _ _ _ _ _ _ _ _ _ _).mono ?_; rintro e w' ⟨rfl, rfl⟩) | (go_at_call 26; refine (say_calls _ _ _ _).mono ?_; rintro e w' ⟨rfl, rfl⟩))
  go_wp2
  refine bodyPost_ret (v := .tuple #[(Value.agg #[.int .i64 5, .int .i64 b, .int .u32 c, .int .u32 d, .int .u32 ((e + 1) % 4294967296), .int .u32 f, .int .i64 g, .int .i64 h, .int .u8 i, .int .i64 j, .int .i64 0]), .slice (some ⟨w.heap.size + 1 + 1 + 1 + 1, 0, none⟩) 1 1]) (by simp [results, Try.results13, go_sem]) rfl ⟨_, rfl, Segs.one (hd (e % 4294967296) f 17 0) (by first | (simp; done) | (simp; omega) | omega) (by repeat (first | exact heap_new (by simp) | refine heap_alloc ?_ _ | refine heap_drew ?_)), (by repeat (first | exact Below.refl _ _ | refine Below.drew ?_ | refine below_drewN ?_ _ | refine Below.alloc ?_ (by first | (simp; done) | (simp; omega)) _))⟩

set_option maxHeartbeats 1000000 in
theorem close_9 (b c d e f g h i j k : Int)  (w : World) : Calls Try.prog 13 #[(Value.agg #[.int .i64 9, .int .i64 b, .int .u32 c, .int .u32 d, .int .u32 e, .int .u32 f, .int .i64 g, .int .i64 h, .int .u8 i, .int .i64 j, .int .i64 k])] w (CPost w (close ⟨9, b, c, d, e, f, g, h, i, j, k⟩)) := by
  have hr : close ⟨9, b, c, d, e, f, g, h, i, j, k⟩ = (⟨10, b, c, d, (e + 1) % 4294967296, f, g, h, i, j, 0⟩, [(hd (e % 4294967296) f 17 0)]) := by simp [close, *]
  rw [hr]; clear hr
  go_enter Try.func13, Try.ntmps13
  go_wp2
  go_region_held3 (fun W => W.cell? ⟨w.heap.size, 0, none⟩ = some (.int .i64 10) ∧ W.cell? ⟨w.heap.size, 1, none⟩ = some (.int .i64 b) ∧ W.cell? ⟨w.heap.size, 2, none⟩ = some (.int .u32 c) ∧ W.cell? ⟨w.heap.size, 3, none⟩ = some (.int .u32 d) ∧ W.cell? ⟨w.heap.size, 4, none⟩ = some (.int .u32 ((e + 1) % 4294967296)) ∧ W.cell? ⟨w.heap.size, 5, none⟩ = some (.int .u32 f) ∧ W.cell? ⟨w.heap.size, 6, none⟩ = some (.int .i64 g) ∧ W.cell? ⟨w.heap.size, 7, none⟩ = some (.int .i64 h) ∧ W.cell? ⟨w.heap.size, 8, none⟩ = some (.int .u8 i) ∧ W.cell? ⟨w.heap.size, 9, none⟩ = some (.int .i64 j) ∧ W.cell? ⟨w.heap.size, 10, none⟩ = some (.int .i64 0)) (((repeat' apply And.intro); all_goals (go_simp; done))) (first | (go_at_call 22; refine (end_calls _ _ _ _ _ _ _ _ _ _ _ _).mono ?_; rintro e w' ⟨rfl, rfl⟩) | (go_at_call 26; refine (say_calls _ _ _ _).mono ?_; rintro e w' ⟨rfl, rfl⟩))
  go_wp2
  refine bodyPost_ret (v := .tuple #[(Value.agg #[.int .i64 10, .int .i64 b, .int .u32 c, .int .u32 d, .int .u32 ((e + 1) % 4294967296), .int .u32 f, .int .i64 g, .int .i64 h, .int .u8 i, .int .i64 j, .int .i64 0]), .slice (some ⟨w.heap.size + 1 + 1 + 1 + 1, 0, none⟩) 1 1]) (by simp [results, Try.results13, go_sem]) rfl ⟨_, rfl, Segs.one (hd (e % 4294967296) f 17 0) (by first | (simp; done) | (simp; omega) | omega) (by repeat (first | exact heap_new (by simp) | refine heap_alloc ?_ _ | refine heap_drew ?_)), (by repeat (first | exact Below.refl _ _ | refine Below.drew ?_ | refine below_drewN ?_ _ | refine Below.alloc ?_ (by first | (simp; done) | (simp; omega)) _))⟩

set_option maxHeartbeats 1000000 in
theorem close_no (a b c d e f g h i j k : Int) (h1 : ¬ a = 1) (h2 : ¬ a = 2) (h3 : ¬ a = 3) (h4 : ¬ a = 4) (h5 : ¬ a = 9) (w : World) : Calls Try.prog 13 #[(Value.agg #[.int .i64 a, .int .i64 b, .int .u32 c, .int .u32 d, .int .u32 e, .int .u32 f, .int .i64 g, .int .i64 h, .int .u8 i, .int .i64 j, .int .i64 k])] w (CPost w (close ⟨a, b, c, d, e, f, g, h, i, j, k⟩)) := by
  have hr : close ⟨a, b, c, d, e, f, g, h, i, j, k⟩ = (⟨a, b, c, d, e, f, g, h, i, j, k⟩, []) := by simp [close, *]
  rw [hr]; clear hr
  go_enter Try.func13, Try.ntmps13
  go_wp2
  refine bodyPost_ret (v := .tuple #[(Value.agg #[.int .i64 a, .int .i64 b, .int .u32 c, .int .u32 d, .int .u32 e, .int .u32 f, .int .i64 g, .int .i64 h, .int .u8 i, .int .i64 j, .int .i64 k]), .slice none 0 0]) (by simp [results, Try.results13, go_sem]) rfl ⟨_, rfl, Segs.nil _ _, (by repeat (first | exact Below.refl _ _ | refine Below.drew ?_ | refine below_drewN ?_ _ | refine Below.alloc ?_ (by first | (simp; done) | (simp; omega)) _))⟩

set_option maxHeartbeats 1000000 in
theorem timeout_8 (b c d e f g h i j k : Int)  (w : World) : Calls Try.prog 7 #[(Value.agg #[.int .i64 8, .int .i64 b, .int .u32 c, .int .u32 d, .int .u32 e, .int .u32 f, .int .i64 g, .int .i64 h, .int .u8 i, .int .i64 j, .int .i64 k])] w (CPost w (timeout ⟨8, b, c, d, e, f, g, h, i, j, k⟩)) := by
  have hr : timeout ⟨8, b, c, d, e, f, g, h, i, j, k⟩ = (⟨0, b, c, d, e, f, g, h, i, j, k⟩, []) := by simp [timeout, *]
  rw [hr]; clear hr
  go_enter Try.func7, Try.ntmps7
  go_wp2
  refine bodyPost_ret (v := .tuple #[(Value.agg #[.int .i64 0, .int .i64 b, .int .u32 c, .int .u32 d, .int .u32 e, .int .u32 f, .int .i64 g, .int .i64 h, .int .u8 i, .int .i64 j, .int .i64 k]), .slice none 0 0]) (by simp [results, Try.results7, go_sem]) rfl ⟨_, rfl, Segs.nil _ _, (by repeat (first | exact Below.refl _ _ | refine Below.drew ?_ | refine below_drewN ?_ _ | refine Below.alloc ?_ (by first | (simp; done) | (simp; omega)) _))⟩

set_option maxHeartbeats 1000000 in
theorem timeout_no (a b c d e f g h i j k : Int) (h1 : ¬ a = 8) (h2 : ¬ a = 2) (h3 : ¬ a = 3) (h4 : ¬ a = 5) (h5 : ¬ a = 7) (h6 : ¬ a = 10) (w : World) : Calls Try.prog 7 #[(Value.agg #[.int .i64 a, .int .i64 b, .int .u32 c, .int .u32 d, .int .u32 e, .int .u32 f, .int .i64 g, .int .i64 h, .int .u8 i, .int .i64 j, .int .i64 k])] w (CPost w (timeout ⟨a, b, c, d, e, f, g, h, i, j, k⟩)) := by
  have hr : timeout ⟨a, b, c, d, e, f, g, h, i, j, k⟩ = (⟨a, b, c, d, e, f, g, h, i, j, k⟩, []) := by simp [timeout, *]
  rw [hr]; clear hr
  go_enter Try.func7, Try.ntmps7
  go_wp2
  refine bodyPost_ret (v := .tuple #[(Value.agg #[.int .i64 a, .int .i64 b, .int .u32 c, .int .u32 d, .int .u32 e, .int .u32 f, .int .i64 g, .int .i64 h, .int .u8 i, .int .i64 j, .int .i64 k]), .slice none 0 0]) (by simp [results, Try.results7, go_sem]) rfl ⟨_, rfl, Segs.nil _ _, (by repeat (first | exact Below.refl _ _ | refine Below.drew ?_ | refine below_drewN ?_ _ | refine Below.alloc ?_ (by first | (simp; done) | (simp; omega)) _))⟩

set_option maxHeartbeats 1000000 in
theorem timeout_2_rst (b c d e f g h i j k : Int) (hk : 6 ≤ k) (w : World) : Calls Try.prog 7 #[(Value.agg #[.int .i64 2, .int .i64 b, .int .u32 c, .int .u32 d, .int .u32 e, .int .u32 f, .int .i64 g, .int .i64 h, .int .u8 i, .int .i64 j, .int .i64 k])] w (CPost w (timeout ⟨2, b, c, d, e, f, g, h, i, j, k⟩)) := by
  have hr : timeout ⟨2, b, c, d, e, f, g, h, i, j, k⟩ = (⟨0, b, c, d, e, f, g, h, i, j, k⟩, [(hd e f 20 0)]) := by simp [timeout, *]
  rw [hr]; clear hr
  have hbits : bits BinOp.or IntKind.u8 16 4 = 20 := by decide
  go_enter Try.func7, Try.ntmps7
  go_wp2_with (first | (go_at_call 25; refine (ack_calls _ _ _ _ _ _ _ _ _ _ _ _).mono ?_; rintro e w' ⟨rfl, rfl⟩))
  go_region_held3 (fun W => W.cell? ⟨w.heap.size, 0, none⟩ = some (.int .i64 0) ∧ W.cell? ⟨w.heap.size, 1, none⟩ = some (.int .i64 b) ∧ W.cell? ⟨w.heap.size, 2, none⟩ = some (.int .u32 c) ∧ W.cell? ⟨w.heap.size, 3, none⟩ = some (.int .u32 d) ∧ W.cell? ⟨w.heap.size, 4, none⟩ = some (.int .u32 e) ∧ W.cell? ⟨w.heap.size, 5, none⟩ = some (.int .u32 f) ∧ W.cell? ⟨w.heap.size, 6, none⟩ = some (.int .i64 g) ∧ W.cell? ⟨w.heap.size, 7, none⟩ = some (.int .i64 h) ∧ W.cell? ⟨w.heap.size, 8, none⟩ = some (.int .u8 i) ∧ W.cell? ⟨w.heap.size, 9, none⟩ = some (.int .i64 j) ∧ W.cell? ⟨w.heap.size, 10, none⟩ = some (.int .i64 k) ∧ W.cell? ⟨w.heap.size + 1 + 1 + 1 + 1, 0, none⟩ = some (.int .u16 0) ∧ W.cell? ⟨w.heap.size + 1 + 1 + 1 + 1, 1, none⟩ = some (.int .u16 0) ∧ W.cell? ⟨w.heap.size + 1 + 1 + 1 + 1, 2, none⟩ = some (.int .u32 e) ∧ W.cell? ⟨w.heap.size + 1 + 1 + 1 + 1, 3, none⟩ = some (.int .u32 f) ∧ W.cell? ⟨w.heap.size + 1 + 1 + 1 + 1, 4, none⟩ = some (.int .u8 5) ∧ W.cell? ⟨w.heap.size + 1 + 1 + 1 + 1, 5, none⟩ = some (.int .u8 0) ∧ W.cell? ⟨w.heap.size + 1 + 1 + 1 + 1, 6, none⟩ = some (.int .u8 20) ∧ W.cell? ⟨w.heap.size + 1 + 1 + 1 + 1, 7, none⟩ = some (.int .u16 0) ∧ W.cell? ⟨w.heap.size + 1 + 1 + 1 + 1, 8, none⟩ = some (.int .u16 0) ∧ W.cell? ⟨w.heap.size + 1 + 1 + 1 + 1, 9, none⟩ = some (.int .u16 0)) (((repeat' apply And.intro); all_goals (go_simp; done))) (first | (go_at_call 26; refine (say_calls _ _ _ _).mono ?_; rintro e w' ⟨rfl, rfl⟩))
  go_wp2
  refine bodyPost_ret (v := .tuple #[(Value.agg #[.int .i64 0, .int .i64 b, .int .u32 c, .int .u32 d, .int .u32 e, .int .u32 f, .int .i64 g, .int .i64 h, .int .u8 i, .int .i64 j, .int .i64 k]), .slice (some ⟨w.heap.size + 1 + 1 + 1 + 1 + 1, 0, none⟩) 1 1]) (by simp [results, Try.results7, go_sem]) rfl ⟨_, rfl, Segs.one (hd e f 20 0) (by first | (simp; done) | (simp; omega) | omega) (by repeat (first | exact heap_new (by simp) | refine heap_alloc ?_ _ | refine heap_drew ?_)), (by repeat (first | exact Below.refl _ _ | refine Below.drew ?_ | refine below_drewN ?_ _ | refine Below.alloc ?_ (by first | (simp; done) | (simp; omega)) _))⟩

set_option maxHeartbeats 1000000 in
theorem timeout_2_y (b c d e f g h i j k : Int) (hk : k < 6) (hq : wrap64 (k + 1) < 2) (w : World) : Calls Try.prog 7 #[(Value.agg #[.int .i64 2, .int .i64 b, .int .u32 c, .int .u32 d, .int .u32 e, .int .u32 f, .int .i64 g, .int .i64 h, .int .u8 i, .int .i64 j, .int .i64 k])] w (CPost w (timeout ⟨2, b, c, d, e, f, g, h, i, j, k⟩)) := by
  have hr : timeout ⟨2, b, c, d, e, f, g, h, i, j, k⟩ = (⟨2, b, c, d, e, f, g, h, i, j, wrap64 (k + 1)⟩, [(hd c 0 2 (askv b))]) := by (have h6 : ¬ 6 ≤ k := (by omega)); simp [timeout, h6, hq]
  rw [hr]; clear hr
  go_enter Try.func7, Try.ntmps7
  go_wp2
  go_region_held3 (fun W => W.cell? ⟨w.heap.size, 0, none⟩ = some (.int .i64 2) ∧ W.cell? ⟨w.heap.size, 1, none⟩ = some (.int .i64 b) ∧ W.cell? ⟨w.heap.size, 2, none⟩ = some (.int .u32 c) ∧ W.cell? ⟨w.heap.size, 3, none⟩ = some (.int .u32 d) ∧ W.cell? ⟨w.heap.size, 4, none⟩ = some (.int .u32 e) ∧ W.cell? ⟨w.heap.size, 5, none⟩ = some (.int .u32 f) ∧ W.cell? ⟨w.heap.size, 6, none⟩ = some (.int .i64 g) ∧ W.cell? ⟨w.heap.size, 7, none⟩ = some (.int .i64 h) ∧ W.cell? ⟨w.heap.size, 8, none⟩ = some (.int .u8 i) ∧ W.cell? ⟨w.heap.size, 9, none⟩ = some (.int .i64 j) ∧ W.cell? ⟨w.heap.size, 10, none⟩ = some (.int .i64 (wrap64 (k + 1)))) (((repeat' apply And.intro); all_goals (go_simp; done))) (first | (go_at_call 23; refine (question_yes _ _ _ _ _ _ _ _ _ _ _ (by first | assumption | omega) _).mono ?_; rintro e w' ⟨rfl, rfl⟩) | (go_at_call 26; refine (say_calls _ _ _ _).mono ?_; rintro e w' ⟨rfl, rfl⟩))
  go_wp2
  refine bodyPost_ret (v := .tuple #[(Value.agg #[.int .i64 2, .int .i64 b, .int .u32 c, .int .u32 d, .int .u32 e, .int .u32 f, .int .i64 g, .int .i64 h, .int .u8 i, .int .i64 j, .int .i64 (wrap64 (k + 1))]), .slice (some ⟨w.heap.size + 1 + 1 + 1 + 1 + 1, 0, none⟩) 1 1]) (by simp [results, Try.results7, go_sem]) rfl ⟨_, rfl, Segs.one (hd c 0 2 (askv b)) (by first | (simp; done) | (simp; omega) | omega) (by repeat (first | exact heap_new (by simp) | refine heap_alloc ?_ _ | refine heap_drew ?_)), (by repeat (first | exact Below.refl _ _ | refine Below.drew ?_ | refine below_drewN ?_ _ | refine Below.alloc ?_ (by first | (simp; done) | (simp; omega)) _))⟩

set_option maxHeartbeats 1000000 in
theorem timeout_2_n (b c d e f g h i j k : Int) (hk : k < 6) (hq : ¬ wrap64 (k + 1) < 2) (w : World) : Calls Try.prog 7 #[(Value.agg #[.int .i64 2, .int .i64 b, .int .u32 c, .int .u32 d, .int .u32 e, .int .u32 f, .int .i64 g, .int .i64 h, .int .u8 i, .int .i64 j, .int .i64 k])] w (CPost w (timeout ⟨2, b, c, d, e, f, g, h, i, j, k⟩)) := by
  have hr : timeout ⟨2, b, c, d, e, f, g, h, i, j, k⟩ = (⟨2, b, c, d, e, f, g, h, i, j, wrap64 (k + 1)⟩, [(hd c 0 2 0)]) := by (have h6 : ¬ 6 ≤ k := (by omega)); simp [timeout, h6, hq]
  rw [hr]; clear hr
  go_enter Try.func7, Try.ntmps7
  go_wp2
  go_region_held3 (fun W => W.cell? ⟨w.heap.size, 0, none⟩ = some (.int .i64 2) ∧ W.cell? ⟨w.heap.size, 1, none⟩ = some (.int .i64 b) ∧ W.cell? ⟨w.heap.size, 2, none⟩ = some (.int .u32 c) ∧ W.cell? ⟨w.heap.size, 3, none⟩ = some (.int .u32 d) ∧ W.cell? ⟨w.heap.size, 4, none⟩ = some (.int .u32 e) ∧ W.cell? ⟨w.heap.size, 5, none⟩ = some (.int .u32 f) ∧ W.cell? ⟨w.heap.size, 6, none⟩ = some (.int .i64 g) ∧ W.cell? ⟨w.heap.size, 7, none⟩ = some (.int .i64 h) ∧ W.cell? ⟨w.heap.size, 8, none⟩ = some (.int .u8 i) ∧ W.cell? ⟨w.heap.size, 9, none⟩ = some (.int .i64 j) ∧ W.cell? ⟨w.heap.size, 10, none⟩ = some (.int .i64 (wrap64 (k + 1)))) (((repeat' apply And.intro); all_goals (go_simp; done))) (first | (go_at_call 23; refine (question_no _ _ _ _ _ _ _ _ _ _ _ (by first | assumption | omega) _).mono ?_; rintro e w' ⟨rfl, rfl⟩) | (go_at_call 26; refine (say_calls _ _ _ _).mono ?_; rintro e w' ⟨rfl, rfl⟩))
  go_wp2
  refine bodyPost_ret (v := .tuple #[(Value.agg #[.int .i64 2, .int .i64 b, .int .u32 c, .int .u32 d, .int .u32 e, .int .u32 f, .int .i64 g, .int .i64 h, .int .u8 i, .int .i64 j, .int .i64 (wrap64 (k + 1))]), .slice (some ⟨w.heap.size + 1 + 1 + 1 + 1 + 1, 0, none⟩) 1 1]) (by simp [results, Try.results7, go_sem]) rfl ⟨_, rfl, Segs.one (hd c 0 2 0) (by first | (simp; done) | (simp; omega) | omega) (by repeat (first | exact heap_new (by simp) | refine heap_alloc ?_ _ | refine heap_drew ?_)), (by repeat (first | exact Below.refl _ _ | refine Below.drew ?_ | refine below_drewN ?_ _ | refine Below.alloc ?_ (by first | (simp; done) | (simp; omega)) _))⟩

set_option maxHeartbeats 1000000 in
theorem timeout_3_rst (b c d e f g h i j k : Int) (hk : 6 ≤ k) (w : World) : Calls Try.prog 7 #[(Value.agg #[.int .i64 3, .int .i64 b, .int .u32 c, .int .u32 d, .int .u32 e, .int .u32 f, .int .i64 g, .int .i64 h, .int .u8 i, .int .i64 j, .int .i64 k])] w (CPost w (timeout ⟨3, b, c, d, e, f, g, h, i, j, k⟩)) := by
  have hr : timeout ⟨3, b, c, d, e, f, g, h, i, j, k⟩ = (⟨0, b, c, d, e, f, g, h, i, j, k⟩, [(hd e f 20 0)]) := by simp [timeout, *]
  rw [hr]; clear hr
  have hbits : bits BinOp.or IntKind.u8 16 4 = 20 := by decide
  go_enter Try.func7, Try.ntmps7
  go_wp2_with (first | (go_at_call 25; refine (ack_calls _ _ _ _ _ _ _ _ _ _ _ _).mono ?_; rintro e w' ⟨rfl, rfl⟩))
  go_region_held3 (fun W => W.cell? ⟨w.heap.size, 0, none⟩ = some (.int .i64 0) ∧ W.cell? ⟨w.heap.size, 1, none⟩ = some (.int .i64 b) ∧ W.cell? ⟨w.heap.size, 2, none⟩ = some (.int .u32 c) ∧ W.cell? ⟨w.heap.size, 3, none⟩ = some (.int .u32 d) ∧ W.cell? ⟨w.heap.size, 4, none⟩ = some (.int .u32 e) ∧ W.cell? ⟨w.heap.size, 5, none⟩ = some (.int .u32 f) ∧ W.cell? ⟨w.heap.size, 6, none⟩ = some (.int .i64 g) ∧ W.cell? ⟨w.heap.size, 7, none⟩ = some (.int .i64 h) ∧ W.cell? ⟨w.heap.size, 8, none⟩ = some (.int .u8 i) ∧ W.cell? ⟨w.heap.size, 9, none⟩ = some (.int .i64 j) ∧ W.cell? ⟨w.heap.size, 10, none⟩ = some (.int .i64 k) ∧ W.cell? ⟨w.heap.size + 1 + 1 + 1 + 1, 0, none⟩ = some (.int .u16 0) ∧ W.cell? ⟨w.heap.size + 1 + 1 + 1 + 1, 1, none⟩ = some (.int .u16 0) ∧ W.cell? ⟨w.heap.size + 1 + 1 + 1 + 1, 2, none⟩ = some (.int .u32 e) ∧ W.cell? ⟨w.heap.size + 1 + 1 + 1 + 1, 3, none⟩ = some (.int .u32 f) ∧ W.cell? ⟨w.heap.size + 1 + 1 + 1 + 1, 4, none⟩ = some (.int .u8 5) ∧ W.cell? ⟨w.heap.size + 1 + 1 + 1 + 1, 5, none⟩ = some (.int .u8 0) ∧ W.cell? ⟨w.heap.size + 1 + 1 + 1 + 1, 6, none⟩ = some (.int .u8 20) ∧ W.cell? ⟨w.heap.size + 1 + 1 + 1 + 1, 7, none⟩ = some (.int .u16 0) ∧ W.cell? ⟨w.heap.size + 1 + 1 + 1 + 1, 8, none⟩ = some (.int .u16 0) ∧ W.cell? ⟨w.heap.size + 1 + 1 + 1 + 1, 9, none⟩ = some (.int .u16 0)) (((repeat' apply And.intro); all_goals (go_simp; done))) (first | (go_at_call 26; refine (say_calls _ _ _ _).mono ?_; rintro e w' ⟨rfl, rfl⟩))
  go_wp2
  refine bodyPost_ret (v := .tuple #[(Value.agg #[.int .i64 0, .int .i64 b, .int .u32 c, .int .u32 d, .int .u32 e, .int .u32 f, .int .i64 g, .int .i64 h, .int .u8 i, .int .i64 j, .int .i64 k]), .slice (some ⟨w.heap.size + 1 + 1 + 1 + 1 + 1, 0, none⟩) 1 1]) (by simp [results, Try.results7, go_sem]) rfl ⟨_, rfl, Segs.one (hd e f 20 0) (by first | (simp; done) | (simp; omega) | omega) (by repeat (first | exact heap_new (by simp) | refine heap_alloc ?_ _ | refine heap_drew ?_)), (by repeat (first | exact Below.refl _ _ | refine Below.drew ?_ | refine below_drewN ?_ _ | refine Below.alloc ?_ (by first | (simp; done) | (simp; omega)) _))⟩

set_option maxHeartbeats 1000000 in
theorem timeout_3_on (b c d e f g h i j k : Int) (hk : k < 6) (w : World) : Calls Try.prog 7 #[(Value.agg #[.int .i64 3, .int .i64 b, .int .u32 c, .int .u32 d, .int .u32 e, .int .u32 f, .int .i64 g, .int .i64 h, .int .u8 i, .int .i64 j, .int .i64 k])] w (CPost w (timeout ⟨3, b, c, d, e, f, g, h, i, j, k⟩)) := by
  have hr : timeout ⟨3, b, c, d, e, f, g, h, i, j, k⟩ = (⟨3, b, c, d, e, f, g, h, i, j, wrap64 (k + 1)⟩, [(hd c f 18 i)]) := by (have h6 : ¬ 6 ≤ k := (by omega)); simp [timeout, h6]
  rw [hr]; clear hr
  go_enter Try.func7, Try.ntmps7
  go_wp2
  go_region_held3 (fun W => W.cell? ⟨w.heap.size, 0, none⟩ = some (.int .i64 3) ∧ W.cell? ⟨w.heap.size, 1, none⟩ = some (.int .i64 b) ∧ W.cell? ⟨w.heap.size, 2, none⟩ = some (.int .u32 c) ∧ W.cell? ⟨w.heap.size, 3, none⟩ = some (.int .u32 d) ∧ W.cell? ⟨w.heap.size, 4, none⟩ = some (.int .u32 e) ∧ W.cell? ⟨w.heap.size, 5, none⟩ = some (.int .u32 f) ∧ W.cell? ⟨w.heap.size, 6, none⟩ = some (.int .i64 g) ∧ W.cell? ⟨w.heap.size, 7, none⟩ = some (.int .i64 h) ∧ W.cell? ⟨w.heap.size, 8, none⟩ = some (.int .u8 i) ∧ W.cell? ⟨w.heap.size, 9, none⟩ = some (.int .i64 j) ∧ W.cell? ⟨w.heap.size, 10, none⟩ = some (.int .i64 (wrap64 (k + 1)))) (((repeat' apply And.intro); all_goals (go_simp; done))) (first | (go_at_call 24; refine (answer_calls _ _ _ _ _ _ _ _ _ _ _ _).mono ?_; rintro e w' ⟨rfl, rfl⟩) | (go_at_call 26; refine (say_calls _ _ _ _).mono ?_; rintro e w' ⟨rfl, rfl⟩))
  go_wp2
  refine bodyPost_ret (v := .tuple #[(Value.agg #[.int .i64 3, .int .i64 b, .int .u32 c, .int .u32 d, .int .u32 e, .int .u32 f, .int .i64 g, .int .i64 h, .int .u8 i, .int .i64 j, .int .i64 (wrap64 (k + 1))]), .slice (some ⟨w.heap.size + 1 + 1 + 1 + 1, 0, none⟩) 1 1]) (by simp [results, Try.results7, go_sem]) rfl ⟨_, rfl, Segs.one (hd c f 18 i) (by first | (simp; done) | (simp; omega) | omega) (by repeat (first | exact heap_new (by simp) | refine heap_alloc ?_ _ | refine heap_drew ?_)), (by repeat (first | exact Below.refl _ _ | refine Below.drew ?_ | refine below_drewN ?_ _ | refine Below.alloc ?_ (by first | (simp; done) | (simp; omega)) _))⟩

set_option maxHeartbeats 1000000 in
theorem timeout_5_rst (b c d e f g h i j k : Int) (hk : 6 ≤ k) (w : World) : Calls Try.prog 7 #[(Value.agg #[.int .i64 5, .int .i64 b, .int .u32 c, .int .u32 d, .int .u32 e, .int .u32 f, .int .i64 g, .int .i64 h, .int .u8 i, .int .i64 j, .int .i64 k])] w (CPost w (timeout ⟨5, b, c, d, e, f, g, h, i, j, k⟩)) := by
  have hr : timeout ⟨5, b, c, d, e, f, g, h, i, j, k⟩ = (⟨0, b, c, d, e, f, g, h, i, j, k⟩, [(hd e f 20 0)]) := by simp [timeout, *]
  rw [hr]; clear hr
  have hbits : bits BinOp.or IntKind.u8 16 4 = 20 := by decide
  go_enter Try.func7, Try.ntmps7
  go_wp2_with (first | (go_at_call 25; refine (ack_calls _ _ _ _ _ _ _ _ _ _ _ _).mono ?_; rintro e w' ⟨rfl, rfl⟩))
  go_region_held3 (fun W => W.cell? ⟨w.heap.size, 0, none⟩ = some (.int .i64 0) ∧ W.cell? ⟨w.heap.size, 1, none⟩ = some (.int .i64 b) ∧ W.cell? ⟨w.heap.size, 2, none⟩ = some (.int .u32 c) ∧ W.cell? ⟨w.heap.size, 3, none⟩ = some (.int .u32 d) ∧ W.cell? ⟨w.heap.size, 4, none⟩ = some (.int .u32 e) ∧ W.cell? ⟨w.heap.size, 5, none⟩ = some (.int .u32 f) ∧ W.cell? ⟨w.heap.size, 6, none⟩ = some (.int .i64 g) ∧ W.cell? ⟨w.heap.size, 7, none⟩ = some (.int .i64 h) ∧ W.cell? ⟨w.heap.size, 8, none⟩ = some (.int .u8 i) ∧ W.cell? ⟨w.heap.size, 9, none⟩ = some (.int .i64 j) ∧ W.cell? ⟨w.heap.size, 10, none⟩ = some (.int .i64 k) ∧ W.cell? ⟨w.heap.size + 1 + 1 + 1 + 1, 0, none⟩ = some (.int .u16 0) ∧ W.cell? ⟨w.heap.size + 1 + 1 + 1 + 1, 1, none⟩ = some (.int .u16 0) ∧ W.cell? ⟨w.heap.size + 1 + 1 + 1 + 1, 2, none⟩ = some (.int .u32 e) ∧ W.cell? ⟨w.heap.size + 1 + 1 + 1 + 1, 3, none⟩ = some (.int .u32 f) ∧ W.cell? ⟨w.heap.size + 1 + 1 + 1 + 1, 4, none⟩ = some (.int .u8 5) ∧ W.cell? ⟨w.heap.size + 1 + 1 + 1 + 1, 5, none⟩ = some (.int .u8 0) ∧ W.cell? ⟨w.heap.size + 1 + 1 + 1 + 1, 6, none⟩ = some (.int .u8 20) ∧ W.cell? ⟨w.heap.size + 1 + 1 + 1 + 1, 7, none⟩ = some (.int .u16 0) ∧ W.cell? ⟨w.heap.size + 1 + 1 + 1 + 1, 8, none⟩ = some (.int .u16 0) ∧ W.cell? ⟨w.heap.size + 1 + 1 + 1 + 1, 9, none⟩ = some (.int .u16 0)) (((repeat' apply And.intro); all_goals (go_simp; done))) (first | (go_at_call 26; refine (say_calls _ _ _ _).mono ?_; rintro e w' ⟨rfl, rfl⟩))
  go_wp2
  refine bodyPost_ret (v := .tuple #[(Value.agg #[.int .i64 0, .int .i64 b, .int .u32 c, .int .u32 d, .int .u32 e, .int .u32 f, .int .i64 g, .int .i64 h, .int .u8 i, .int .i64 j, .int .i64 k]), .slice (some ⟨w.heap.size + 1 + 1 + 1 + 1 + 1, 0, none⟩) 1 1]) (by simp [results, Try.results7, go_sem]) rfl ⟨_, rfl, Segs.one (hd e f 20 0) (by first | (simp; done) | (simp; omega) | omega) (by repeat (first | exact heap_new (by simp) | refine heap_alloc ?_ _ | refine heap_drew ?_)), (by repeat (first | exact Below.refl _ _ | refine Below.drew ?_ | refine below_drewN ?_ _ | refine Below.alloc ?_ (by first | (simp; done) | (simp; omega)) _))⟩

set_option maxHeartbeats 1000000 in
theorem timeout_5_on (b c d e f g h i j k : Int) (hk : k < 6) (w : World) : Calls Try.prog 7 #[(Value.agg #[.int .i64 5, .int .i64 b, .int .u32 c, .int .u32 d, .int .u32 e, .int .u32 f, .int .i64 g, .int .i64 h, .int .u8 i, .int .i64 j, .int .i64 k])] w (CPost w (timeout ⟨5, b, c, d, e, f, g, h, i, j, k⟩)) := by
  have hr : timeout ⟨5, b, c, d, e, f, g, h, i, j, k⟩ = (⟨5, b, c, d, e, f, g, h, i, j, wrap64 (k + 1)⟩, [(hd ((e - 1) % 4294967296) f 17 0)]) := by (have h6 : ¬ 6 ≤ k := (by omega)); simp [timeout, h6]
  rw [hr]; clear hr
  go_enter Try.func7, Try.ntmps7
  go_wp2
  go_region_held3 (fun W => W.cell? ⟨w.heap.size, 0, none⟩ = some (.int .i64 5) ∧ W.cell? ⟨w.heap.size, 1, none⟩ = some (.int .i64 b) ∧ W.cell? ⟨w.heap.size, 2, none⟩ = some (.int .u32 c) ∧ W.cell? ⟨w.heap.size, 3, none⟩ = some (.int .u32 d) ∧ W.cell? ⟨w.heap.size, 4, none⟩ = some (.int .u32 e) ∧ W.cell? ⟨w.heap.size, 5, none⟩ = some (.int .u32 f) ∧ W.cell? ⟨w.heap.size, 6, none⟩ = some (.int .i64 g) ∧ W.cell? ⟨w.heap.size, 7, none⟩ = some (.int .i64 h) ∧ W.cell? ⟨w.heap.size, 8, none⟩ = some (.int .u8 i) ∧ W.cell? ⟨w.heap.size, 9, none⟩ = some (.int .i64 j) ∧ W.cell? ⟨w.heap.size, 10, none⟩ = some (.int .i64 (wrap64 (k + 1)))) (((repeat' apply And.intro); all_goals (go_simp; done))) (first | (go_at_call 22; refine (end_calls _ _ _ _ _ _ _ _ _ _ _ _).mono ?_; rintro e w' ⟨rfl, rfl⟩) | (go_at_call 26; refine (say_calls _ _ _ _).mono ?_; rintro e w' ⟨rfl, rfl⟩))
  go_wp2
  refine bodyPost_ret (v := .tuple #[(Value.agg #[.int .i64 5, .int .i64 b, .int .u32 c, .int .u32 d, .int .u32 e, .int .u32 f, .int .i64 g, .int .i64 h, .int .u8 i, .int .i64 j, .int .i64 (wrap64 (k + 1))]), .slice (some ⟨w.heap.size + 1 + 1 + 1 + 1, 0, none⟩) 1 1]) (by simp [results, Try.results7, go_sem]) rfl ⟨_, rfl, Segs.one (hd ((e - 1) % 4294967296) f 17 0) (by first | (simp; done) | (simp; omega) | omega) (by repeat (first | exact heap_new (by simp) | refine heap_alloc ?_ _ | refine heap_drew ?_)), (by repeat (first | exact Below.refl _ _ | refine Below.drew ?_ | refine below_drewN ?_ _ | refine Below.alloc ?_ (by first | (simp; done) | (simp; omega)) _))⟩

set_option maxHeartbeats 1000000 in
theorem timeout_7_rst (b c d e f g h i j k : Int) (hk : 6 ≤ k) (w : World) : Calls Try.prog 7 #[(Value.agg #[.int .i64 7, .int .i64 b, .int .u32 c, .int .u32 d, .int .u32 e, .int .u32 f, .int .i64 g, .int .i64 h, .int .u8 i, .int .i64 j, .int .i64 k])] w (CPost w (timeout ⟨7, b, c, d, e, f, g, h, i, j, k⟩)) := by
  have hr : timeout ⟨7, b, c, d, e, f, g, h, i, j, k⟩ = (⟨0, b, c, d, e, f, g, h, i, j, k⟩, [(hd e f 20 0)]) := by simp [timeout, *]
  rw [hr]; clear hr
  have hbits : bits BinOp.or IntKind.u8 16 4 = 20 := by decide
  go_enter Try.func7, Try.ntmps7
  go_wp2_with (first | (go_at_call 25; refine (ack_calls _ _ _ _ _ _ _ _ _ _ _ _).mono ?_; rintro e w' ⟨rfl, rfl⟩))
  go_region_held3 (fun W => W.cell? ⟨w.heap.size, 0, none⟩ = some (.int .i64 0) ∧ W.cell? ⟨w.heap.size, 1, none⟩ = some (.int .i64 b) ∧ W.cell? ⟨w.heap.size, 2, none⟩ = some (.int .u32 c) ∧ W.cell? ⟨w.heap.size, 3, none⟩ = some (.int .u32 d) ∧ W.cell? ⟨w.heap.size, 4, none⟩ = some (.int .u32 e) ∧ W.cell? ⟨w.heap.size, 5, none⟩ = some (.int .u32 f) ∧ W.cell? ⟨w.heap.size, 6, none⟩ = some (.int .i64 g) ∧ W.cell? ⟨w.heap.size, 7, none⟩ = some (.int .i64 h) ∧ W.cell? ⟨w.heap.size, 8, none⟩ = some (.int .u8 i) ∧ W.cell? ⟨w.heap.size, 9, none⟩ = some (.int .i64 j) ∧ W.cell? ⟨w.heap.size, 10, none⟩ = some (.int .i64 k) ∧ W.cell? ⟨w.heap.size + 1 + 1 + 1 + 1, 0, none⟩ = some (.int .u16 0) ∧ W.cell? ⟨w.heap.size + 1 + 1 + 1 + 1, 1, none⟩ = some (.int .u16 0) ∧ W.cell? ⟨w.heap.size + 1 + 1 + 1 + 1, 2, none⟩ = some (.int .u32 e) ∧ W.cell? ⟨w.heap.size + 1 + 1 + 1 + 1, 3, none⟩ = some (.int .u32 f) ∧ W.cell? ⟨w.heap.size + 1 + 1 + 1 + 1, 4, none⟩ = some (.int .u8 5) ∧ W.cell? ⟨w.heap.size + 1 + 1 + 1 + 1, 5, none⟩ = some (.int .u8 0) ∧ W.cell? ⟨w.heap.size + 1 + 1 + 1 + 1, 6, none⟩ = some (.int .u8 20) ∧ W.cell? ⟨w.heap.size + 1 + 1 + 1 + 1, 7, none⟩ = some (.int .u16 0) ∧ W.cell? ⟨w.heap.size + 1 + 1 + 1 + 1, 8, none⟩ = some (.int .u16 0) ∧ W.cell? ⟨w.heap.size + 1 + 1 + 1 + 1, 9, none⟩ = some (.int .u16 0)) (((repeat' apply And.intro); all_goals (go_simp; done))) (first | (go_at_call 26; refine (say_calls _ _ _ _).mono ?_; rintro e w' ⟨rfl, rfl⟩))
  go_wp2
  refine bodyPost_ret (v := .tuple #[(Value.agg #[.int .i64 0, .int .i64 b, .int .u32 c, .int .u32 d, .int .u32 e, .int .u32 f, .int .i64 g, .int .i64 h, .int .u8 i, .int .i64 j, .int .i64 k]), .slice (some ⟨w.heap.size + 1 + 1 + 1 + 1 + 1, 0, none⟩) 1 1]) (by simp [results, Try.results7, go_sem]) rfl ⟨_, rfl, Segs.one (hd e f 20 0) (by first | (simp; done) | (simp; omega) | omega) (by repeat (first | exact heap_new (by simp) | refine heap_alloc ?_ _ | refine heap_drew ?_)), (by repeat (first | exact Below.refl _ _ | refine Below.drew ?_ | refine below_drewN ?_ _ | refine Below.alloc ?_ (by first | (simp; done) | (simp; omega)) _))⟩

set_option maxHeartbeats 1000000 in
theorem timeout_7_on (b c d e f g h i j k : Int) (hk : k < 6) (w : World) : Calls Try.prog 7 #[(Value.agg #[.int .i64 7, .int .i64 b, .int .u32 c, .int .u32 d, .int .u32 e, .int .u32 f, .int .i64 g, .int .i64 h, .int .u8 i, .int .i64 j, .int .i64 k])] w (CPost w (timeout ⟨7, b, c, d, e, f, g, h, i, j, k⟩)) := by
  have hr : timeout ⟨7, b, c, d, e, f, g, h, i, j, k⟩ = (⟨7, b, c, d, e, f, g, h, i, j, wrap64 (k + 1)⟩, [(hd ((e - 1) % 4294967296) f 17 0)]) := by (have h6 : ¬ 6 ≤ k := (by omega)); simp [timeout, h6]
  rw [hr]; clear hr
  go_enter Try.func7, Try.ntmps7
  go_wp2
  go_region_held3 (fun W => W.cell? ⟨w.heap.size, 0, none⟩ = some (.int .i64 7) ∧ W.cell? ⟨w.heap.size, 1, none⟩ = some (.int .i64 b) ∧ W.cell? ⟨w.heap.size, 2, none⟩ = some (.int .u32 c) ∧ W.cell? ⟨w.heap.size, 3, none⟩ = some (.int .u32 d) ∧ W.cell? ⟨w.heap.size, 4, none⟩ = some (.int .u32 e) ∧ W.cell? ⟨w.heap.size, 5, none⟩ = some (.int .u32 f) ∧ W.cell? ⟨w.heap.size, 6, none⟩ = some (.int .i64 g) ∧ W.cell? ⟨w.heap.size, 7, none⟩ = some (.int .i64 h) ∧ W.cell? ⟨w.heap.size, 8, none⟩ = some (.int .u8 i) ∧ W.cell? ⟨w.heap.size, 9, none⟩ = some (.int .i64 j) ∧ W.cell? ⟨w.heap.size, 10, none⟩ = some (.int .i64 (wrap64 (k + 1)))) (((repeat' apply And.intro); all_goals (go_simp; done))) (first | (go_at_call 22; refine (end_calls _ _ _ _ _ _ _ _ _ _ _ _).mono ?_; rintro e w' ⟨rfl, rfl⟩) | (go_at_call 26; refine (say_calls _ _ _ _).mono ?_; rintro e w' ⟨rfl, rfl⟩))
  go_wp2
  refine bodyPost_ret (v := .tuple #[(Value.agg #[.int .i64 7, .int .i64 b, .int .u32 c, .int .u32 d, .int .u32 e, .int .u32 f, .int .i64 g, .int .i64 h, .int .u8 i, .int .i64 j, .int .i64 (wrap64 (k + 1))]), .slice (some ⟨w.heap.size + 1 + 1 + 1 + 1, 0, none⟩) 1 1]) (by simp [results, Try.results7, go_sem]) rfl ⟨_, rfl, Segs.one (hd ((e - 1) % 4294967296) f 17 0) (by first | (simp; done) | (simp; omega) | omega) (by repeat (first | exact heap_new (by simp) | refine heap_alloc ?_ _ | refine heap_drew ?_)), (by repeat (first | exact Below.refl _ _ | refine Below.drew ?_ | refine below_drewN ?_ _ | refine Below.alloc ?_ (by first | (simp; done) | (simp; omega)) _))⟩

set_option maxHeartbeats 1000000 in
theorem timeout_10_rst (b c d e f g h i j k : Int) (hk : 6 ≤ k) (w : World) : Calls Try.prog 7 #[(Value.agg #[.int .i64 10, .int .i64 b, .int .u32 c, .int .u32 d, .int .u32 e, .int .u32 f, .int .i64 g, .int .i64 h, .int .u8 i, .int .i64 j, .int .i64 k])] w (CPost w (timeout ⟨10, b, c, d, e, f, g, h, i, j, k⟩)) := by
  have hr : timeout ⟨10, b, c, d, e, f, g, h, i, j, k⟩ = (⟨0, b, c, d, e, f, g, h, i, j, k⟩, [(hd e f 20 0)]) := by simp [timeout, *]
  rw [hr]; clear hr
  have hbits : bits BinOp.or IntKind.u8 16 4 = 20 := by decide
  go_enter Try.func7, Try.ntmps7
  go_wp2_with (first | (go_at_call 25; refine (ack_calls _ _ _ _ _ _ _ _ _ _ _ _).mono ?_; rintro e w' ⟨rfl, rfl⟩))
  go_region_held3 (fun W => W.cell? ⟨w.heap.size, 0, none⟩ = some (.int .i64 0) ∧ W.cell? ⟨w.heap.size, 1, none⟩ = some (.int .i64 b) ∧ W.cell? ⟨w.heap.size, 2, none⟩ = some (.int .u32 c) ∧ W.cell? ⟨w.heap.size, 3, none⟩ = some (.int .u32 d) ∧ W.cell? ⟨w.heap.size, 4, none⟩ = some (.int .u32 e) ∧ W.cell? ⟨w.heap.size, 5, none⟩ = some (.int .u32 f) ∧ W.cell? ⟨w.heap.size, 6, none⟩ = some (.int .i64 g) ∧ W.cell? ⟨w.heap.size, 7, none⟩ = some (.int .i64 h) ∧ W.cell? ⟨w.heap.size, 8, none⟩ = some (.int .u8 i) ∧ W.cell? ⟨w.heap.size, 9, none⟩ = some (.int .i64 j) ∧ W.cell? ⟨w.heap.size, 10, none⟩ = some (.int .i64 k) ∧ W.cell? ⟨w.heap.size + 1 + 1 + 1 + 1, 0, none⟩ = some (.int .u16 0) ∧ W.cell? ⟨w.heap.size + 1 + 1 + 1 + 1, 1, none⟩ = some (.int .u16 0) ∧ W.cell? ⟨w.heap.size + 1 + 1 + 1 + 1, 2, none⟩ = some (.int .u32 e) ∧ W.cell? ⟨w.heap.size + 1 + 1 + 1 + 1, 3, none⟩ = some (.int .u32 f) ∧ W.cell? ⟨w.heap.size + 1 + 1 + 1 + 1, 4, none⟩ = some (.int .u8 5) ∧ W.cell? ⟨w.heap.size + 1 + 1 + 1 + 1, 5, none⟩ = some (.int .u8 0) ∧ W.cell? ⟨w.heap.size + 1 + 1 + 1 + 1, 6, none⟩ = some (.int .u8 20) ∧ W.cell? ⟨w.heap.size + 1 + 1 + 1 + 1, 7, none⟩ = some (.int .u16 0) ∧ W.cell? ⟨w.heap.size + 1 + 1 + 1 + 1, 8, none⟩ = some (.int .u16 0) ∧ W.cell? ⟨w.heap.size + 1 + 1 + 1 + 1, 9, none⟩ = some (.int .u16 0)) (((repeat' apply And.intro); all_goals (go_simp; done))) (first | (go_at_call 26; refine (say_calls _ _ _ _).mono ?_; rintro e w' ⟨rfl, rfl⟩))
  go_wp2
  refine bodyPost_ret (v := .tuple #[(Value.agg #[.int .i64 0, .int .i64 b, .int .u32 c, .int .u32 d, .int .u32 e, .int .u32 f, .int .i64 g, .int .i64 h, .int .u8 i, .int .i64 j, .int .i64 k]), .slice (some ⟨w.heap.size + 1 + 1 + 1 + 1 + 1, 0, none⟩) 1 1]) (by simp [results, Try.results7, go_sem]) rfl ⟨_, rfl, Segs.one (hd e f 20 0) (by first | (simp; done) | (simp; omega) | omega) (by repeat (first | exact heap_new (by simp) | refine heap_alloc ?_ _ | refine heap_drew ?_)), (by repeat (first | exact Below.refl _ _ | refine Below.drew ?_ | refine below_drewN ?_ _ | refine Below.alloc ?_ (by first | (simp; done) | (simp; omega)) _))⟩

set_option maxHeartbeats 1000000 in
theorem timeout_10_on (b c d e f g h i j k : Int) (hk : k < 6) (w : World) : Calls Try.prog 7 #[(Value.agg #[.int .i64 10, .int .i64 b, .int .u32 c, .int .u32 d, .int .u32 e, .int .u32 f, .int .i64 g, .int .i64 h, .int .u8 i, .int .i64 j, .int .i64 k])] w (CPost w (timeout ⟨10, b, c, d, e, f, g, h, i, j, k⟩)) := by
  have hr : timeout ⟨10, b, c, d, e, f, g, h, i, j, k⟩ = (⟨10, b, c, d, e, f, g, h, i, j, wrap64 (k + 1)⟩, [(hd ((e - 1) % 4294967296) f 17 0)]) := by (have h6 : ¬ 6 ≤ k := (by omega)); simp [timeout, h6]
  rw [hr]; clear hr
  go_enter Try.func7, Try.ntmps7
  go_wp2
  go_region_held3 (fun W => W.cell? ⟨w.heap.size, 0, none⟩ = some (.int .i64 10) ∧ W.cell? ⟨w.heap.size, 1, none⟩ = some (.int .i64 b) ∧ W.cell? ⟨w.heap.size, 2, none⟩ = some (.int .u32 c) ∧ W.cell? ⟨w.heap.size, 3, none⟩ = some (.int .u32 d) ∧ W.cell? ⟨w.heap.size, 4, none⟩ = some (.int .u32 e) ∧ W.cell? ⟨w.heap.size, 5, none⟩ = some (.int .u32 f) ∧ W.cell? ⟨w.heap.size, 6, none⟩ = some (.int .i64 g) ∧ W.cell? ⟨w.heap.size, 7, none⟩ = some (.int .i64 h) ∧ W.cell? ⟨w.heap.size, 8, none⟩ = some (.int .u8 i) ∧ W.cell? ⟨w.heap.size, 9, none⟩ = some (.int .i64 j) ∧ W.cell? ⟨w.heap.size, 10, none⟩ = some (.int .i64 (wrap64 (k + 1)))) (((repeat' apply And.intro); all_goals (go_simp; done))) (first | (go_at_call 22; refine (end_calls _ _ _ _ _ _ _ _ _ _ _ _).mono ?_; rintro e w' ⟨rfl, rfl⟩) | (go_at_call 26; refine (say_calls _ _ _ _).mono ?_; rintro e w' ⟨rfl, rfl⟩))
  go_wp2
  refine bodyPost_ret (v := .tuple #[(Value.agg #[.int .i64 10, .int .i64 b, .int .u32 c, .int .u32 d, .int .u32 e, .int .u32 f, .int .i64 g, .int .i64 h, .int .u8 i, .int .i64 j, .int .i64 (wrap64 (k + 1))]), .slice (some ⟨w.heap.size + 1 + 1 + 1 + 1, 0, none⟩) 1 1]) (by simp [results, Try.results7, go_sem]) rfl ⟨_, rfl, Segs.one (hd ((e - 1) % 4294967296) f 17 0) (by first | (simp; done) | (simp; omega) | omega) (by repeat (first | exact heap_new (by simp) | refine heap_alloc ?_ _ | refine heap_drew ?_)), (by repeat (first | exact Below.refl _ _ | refine Below.drew ?_ | refine below_drewN ?_ _ | refine Below.alloc ?_ (by first | (simp; done) | (simp; omega)) _))⟩

end Go.Proofs.Ytbklomnlhpbhnaa
