import Derived.Test.YtbklomnlhpbhnaaA3
import Derived.Lib.Hide
import Derived.LoopN
namespace Go.Proofs.Ytbklomnlhpbhnaa
open Go.RowKit

/-- Are these flags there? -/
def has (f g : Int) : Bool := bits BinOp.and IntKind.u8 f g == g
def newerD (x y : Int) : Bool := decide (wrap64 (IntKind.u64.wrap (IntKind.u64.wrap (x - y) * 4294967296)) / 4294967296 > 0)
def newer (a b : Int) : Bool := newerD (IntKind.u64.wrap a) (IntKind.u64.wrap b)
def shake (code : Int) : Int := if code = 0 then 2 else if code = 1 then 3 else if code = 2 then 4 else if code = 3 then 6 else 0
def shaken (ace : Int) : Int := if ace = 2 then 0 else if ace = 3 then 1 else if ace = 4 then 2 else if ace = 6 then 3 else -1
def startv (ace : Int) : Int := if ace = 6 then 6 else 5
theorem within_32 (w : World) : Calls Try.prog 51 #[.int .i64 32] w fun e w' => e = .returned (.int .u64 32) ∧ w' = w := by
  go_enter Try.func51, Try.ntmps51
  go_wp2
  go_ret
  exact ⟨rfl, rfl⟩
theorem sdiff_calls (a b : Int) (w : World) : Calls Try.prog 50 #[.int .u64 a, .int .u64 b, .int .i64 32] w fun e w' => e = .returned (.int .i64 (wrap64 (IntKind.u64.wrap (IntKind.u64.wrap (a - b) * 4294967296)) / 4294967296)) ∧ w' = w := by
  go_enter Try.func50, Try.ntmps50
  go_wp2_with (go_at_call 51; refine (within_32 _).mono ?_; rintro e w' ⟨rfl, rfl⟩)
  go_ret
  exact ⟨rfl, rfl⟩
theorem snewer_calls (a b : Int) (w : World) : Calls Try.prog 48 #[.int .u64 a, .int .u64 b, .int .i64 32] w fun e w' => e = .returned (.bool (newerD a b)) ∧ w' = w := by
  go_enter Try.func48, Try.ntmps48
  go_wp2_with (go_at_call 50; refine (sdiff_calls _ _ _).mono ?_; rintro e w' ⟨rfl, rfl⟩)
  go_ret
  exact ⟨by simp [newerD], rfl⟩
theorem newer_calls (a b : Int) (w : World) : Calls Try.prog 43 #[.int .u32 a, .int .u32 b] w fun e w' => e = .returned (.bool (newer a b)) ∧ w' = w := by
  go_enter Try.func43, Try.ntmps43
  go_wp2_with (go_at_call 48; refine (snewer_calls _ _ _).mono ?_; rintro e w' ⟨rfl, rfl⟩)
  go_ret
  exact ⟨rfl, rfl⟩
theorem has_calls (m0 m1 m2 m3 m4 m5 m6 m7 m8 m9 g : Int) (w : World) : Calls Try.prog 38 #[(Value.agg #[.int .u16 m0, .int .u16 m1, .int .u32 m2, .int .u32 m3, .int .u8 m4, .int .u8 m5, .int .u8 m6, .int .u16 m7, .int .u16 m8, .int .u16 m9]), .int .u8 g] w fun e w' => e = .returned (.bool (has m6 g)) ∧ w' = w.alloc (Obj.cells #[.int .u16 m0, .int .u16 m1, .int .u32 m2, .int .u32 m3, .int .u8 m4, .int .u8 m5, .int .u8 m6, .int .u16 m7, .int .u16 m8, .int .u16 m9] 52) := by
  go_enter Try.func38, Try.ntmps38
  go_wp2
  go_ret
  exact ⟨rfl, rfl⟩
theorem shakes_calls (w : World) : Calls Try.prog 37 #[] w fun e w' => e = .returned (.agg #[.int .u8 2, .int .u8 3, .int .u8 4, .int .u8 6]) ∧ w' = w.alloc (Obj.cells #[.int .u8 2, .int .u8 3, .int .u8 4, .int .u8 6] 61) := by
  go_enter Try.func37, Try.ntmps37
  go_wp2
  exact bodyPost_ret (v := .agg #[.int .u8 2, .int .u8 3, .int .u8 4, .int .u8 6]) (by simp [results, Try.results37, go_sem]) rfl ⟨rfl, rfl⟩

set_option maxHeartbeats 400000 in
theorem Shake_calls (a0 : Int) (w : World) : Calls Try.prog 31 #[.int .i64 a0] w fun e w' => e = .returned (.int .u8 (shake a0)) ∧ w' = (w.alloc (Obj.cells #[.int .u8 2, .int .u8 3, .int .u8 4, .int .u8 6] 61)).alloc (Obj.cells #[.int .u8 2, .int .u8 3, .int .u8 4, .int .u8 6] 61) := by
  by_cases h0 : a0 = 0
  · subst h0; go_enter Try.func31, Try.ntmps31; go_wp2_with (first | (go_at_call 37; refine (shakes_calls _).mono ?_; rintro e w' ⟨rfl, rfl⟩)); go_ret; exact ⟨rfl, rfl⟩
  by_cases h1 : a0 = 1
  · subst h1; go_enter Try.func31, Try.ntmps31; go_wp2_with (first | (go_at_call 37; refine (shakes_calls _).mono ?_; rintro e w' ⟨rfl, rfl⟩)); go_ret; exact ⟨rfl, rfl⟩
  by_cases h2 : a0 = 2
  · subst h2; go_enter Try.func31, Try.ntmps31; go_wp2_with (first | (go_at_call 37; refine (shakes_calls _).mono ?_; rintro e w' ⟨rfl, rfl⟩)); go_ret; exact ⟨rfl, rfl⟩
  by_cases h3 : a0 = 3
  · subst h3; go_enter Try.func31, Try.ntmps31; go_wp2_with (first | (go_at_call 37; refine (shakes_calls _).mono ?_; rintro e w' ⟨rfl, rfl⟩)); go_ret; exact ⟨rfl, rfl⟩
  have hr : shake a0 = 0 := by simp [shake, h0, h1, h2, h3]
  rw [hr]; clear hr
  by_cases h4 : a0 < 0
  · go_enter Try.func31, Try.ntmps31; go_wp2_with (first | (go_at_call 37; refine (shakes_calls _).mono ?_; rintro e w' ⟨rfl, rfl⟩)); go_ret; exact ⟨rfl, rfl⟩
  · have h5 : 4 ≤ a0 := by omega
    clear h0 h1 h2 h3
    go_enter Try.func31, Try.ntmps31; go_wp2_with (first | (go_at_call 37; refine (shakes_calls _).mono ?_; rintro e w' ⟨rfl, rfl⟩)); go_ret; exact ⟨rfl, rfl⟩

set_option maxHeartbeats 400000 in
theorem index_calls (g : Nat) (a : Int) (w : World) (c0 : w.cell? ⟨g, 0, none⟩ = some (.int .u8 2)) (c1 : w.cell? ⟨g, 1, none⟩ = some (.int .u8 3)) (c2 : w.cell? ⟨g, 2, none⟩ = some (.int .u8 4)) (c3 : w.cell? ⟨g, 3, none⟩ = some (.int .u8 6)) : Calls Try.prog 49 #[.slice (some ⟨g, 0, none⟩) 4 4, .int .u8 a] w fun e w' => e = .returned (.int .i64 (shaken a)) ∧ w' = w := by
  by_cases h0 : a = 2
  · subst h0
    go_enter Try.func49, Try.ntmps49
    go_wp2
    refine wp_loop_rounds 1 ?_
    rw [rounds_succ]
    go_wp2
    go_ret
    exact ⟨rfl, rfl⟩
  by_cases h1 : a = 3
  · subst h1
    go_enter Try.func49, Try.ntmps49
    go_wp2
    refine wp_loop_rounds 2 ?_
    rw [rounds_succ]
    go_wp2
    rw [rounds_succ]
    go_wp2
    go_ret
    exact ⟨rfl, rfl⟩
  by_cases h2 : a = 4
  · subst h2
    go_enter Try.func49, Try.ntmps49
    go_wp2
    refine wp_loop_rounds 3 ?_
    rw [rounds_succ]
    go_wp2
    rw [rounds_succ]
    go_wp2
    rw [rounds_succ]
    go_wp2
    go_ret
    exact ⟨rfl, rfl⟩
  by_cases h3 : a = 6
  · subst h3
    go_enter Try.func49, Try.ntmps49
    go_wp2
    refine wp_loop_rounds 4 ?_
    rw [rounds_succ]
    go_wp2
    rw [rounds_succ]
    go_wp2
    rw [rounds_succ]
    go_wp2
    rw [rounds_succ]
    go_wp2
    go_ret
    exact ⟨rfl, rfl⟩
  have hr : shaken a = -1 := by simp [shaken, h0, h1, h2, h3]
  rw [hr]; clear hr
  go_enter Try.func49, Try.ntmps49
  go_wp2
  refine wp_loop_rounds 5 ?_
  rw [rounds_succ]
  go_wp2
  rw [rounds_succ]
  go_wp2
  rw [rounds_succ]
  go_wp2
  rw [rounds_succ]
  go_wp2
  rw [rounds_succ]
  go_wp2
  go_ret
  exact ⟨rfl, rfl⟩

end Go.Proofs.Ytbklomnlhpbhnaa
