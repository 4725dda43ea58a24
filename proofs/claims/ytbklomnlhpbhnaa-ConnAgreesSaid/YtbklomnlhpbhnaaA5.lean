import Derived.Test.YtbklomnlhpbhnaaA4
import Derived.Lib.Hide
import Derived.LoopN
namespace Go.Proofs.Ytbklomnlhpbhnaa
open Go.RowKit

theorem refuse_calls (s : Int) (w : World) : Calls Try.prog 39 #[.int .u32 s] w fun e w' => e = .returned (Value.agg #[.int .u16 0, .int .u16 0, .int .u32 s, .int .u32 0, .int .u8 5, .int .u8 0, .int .u8 4, .int .u16 0, .int .u16 0, .int .u16 0]) ∧ w' = w.alloc (Obj.cells #[.int .u16 0, .int .u16 0, .int .u32 s, .int .u32 0, .int .u8 5, .int .u8 0, .int .u8 4, .int .u16 0, .int .u16 0, .int .u16 0] 52) := by
  go_enter Try.func39, Try.ntmps39
  go_wp2
  exact bodyPost_ret (v := (Value.agg #[.int .u16 0, .int .u16 0, .int .u32 s, .int .u32 0, .int .u8 5, .int .u8 0, .int .u8 4, .int .u16 0, .int .u16 0, .int .u16 0])) (by simp [results, Try.results39, go_sem]) rfl ⟨rfl, rfl⟩
def heardv (s : Int) : Int := if s = 5 then 6 else if s = 7 then 8 else if s = 10 then 0 else s
theorem heard_calls (s : Int) (w : World) : Calls Try.prog 45 #[.int .i64 s] w fun e w' => e = .returned (.int .i64 (heardv s)) ∧ w' = w := by
  by_cases h0 : s = 5
  · subst h0; go_enter Try.func45, Try.ntmps45; go_wp2; go_ret; exact ⟨rfl, rfl⟩
  by_cases h1 : s = 7
  · subst h1; go_enter Try.func45, Try.ntmps45; go_wp2; go_ret; exact ⟨rfl, rfl⟩
  by_cases h2 : s = 10
  · subst h2; go_enter Try.func45, Try.ntmps45; go_wp2; go_ret; exact ⟨rfl, rfl⟩
  have hr : heardv s = s := by simp [heardv, h0, h1, h2]
  rw [hr]; clear hr
  go_enter Try.func45, Try.ntmps45; go_wp2; go_ret; exact ⟨rfl, rfl⟩
set_option maxHeartbeats 400000 in
theorem Shaken_no (a : Int) (h : shaken a < 0) (w : World) : Calls Try.prog 47 #[.int .u8 a] w fun e w' => e = .returned (.tuple #[.int .i64 0, .bool false]) ∧ w' = (w.alloc (Obj.cells #[.int .u8 2, .int .u8 3, .int .u8 4, .int .u8 6] 61)).alloc (Obj.cells #[.int .u8 2, .int .u8 3, .int .u8 4, .int .u8 6] 61) := by
  have hd : decide (0 ≤ shaken a) = false := by simpa using h
  go_enter Try.func47, Try.ntmps47
  go_wp2_with (first | (go_at_call 37; refine (shakes_calls _).mono ?_; rintro e w' ⟨rfl, rfl⟩) | (go_at_call 49; refine (index_calls _ _ _ (by go_simp) (by go_simp) (by go_simp) (by go_simp)).mono ?_; rintro e w' ⟨rfl, rfl⟩))
  go_ret2
  exact ⟨rfl, rfl⟩
set_option maxHeartbeats 400000 in
theorem Shaken_yes (a : Int) (h : 0 ≤ shaken a) (w : World) : Calls Try.prog 47 #[.int .u8 a] w fun e w' => e = .returned (.tuple #[.int .i64 (shaken a), .bool true]) ∧ w' = (w.alloc (Obj.cells #[.int .u8 2, .int .u8 3, .int .u8 4, .int .u8 6] 61)).alloc (Obj.cells #[.int .u8 2, .int .u8 3, .int .u8 4, .int .u8 6] 61) := by
  go_enter Try.func47, Try.ntmps47
  go_wp2_with (first | (go_at_call 37; refine (shakes_calls _).mono ?_; rintro e w' ⟨rfl, rfl⟩) | (go_at_call 49; refine (index_calls _ _ _ (by go_simp) (by go_simp) (by go_simp) (by go_simp)).mono ?_; rintro e w' ⟨rfl, rfl⟩))
  go_ret2
  exact ⟨rfl, rfl⟩
def settle (want r : Int) : Int × Int := if 2 ≤ want ∧ 0 ≤ shaken r then (2, shaken r) else if 1 ≤ want ∧ (r = 1 ∨ r = 5) then (1, 0) else (0, 0)
/-- What is answered, the mode, and how much memory that takes. -/
def replyv (ask code able : Int) : Int × Int :=
  if ask = 7 ∧ 2 ≤ able then (if shake code < 2 then 2 else shake code, 2)
  else if (ask = 7 ∨ ask = 3) ∧ 1 ≤ able then (1, 1) else (0, 0)
set_option maxHeartbeats 400000 in
theorem Start_calls (a : Int) (w : World) : Calls Try.prog 42 #[.int .u8 a] w fun e w' => e = .returned (.int .i64 (startv a)) ∧ w' = (w.alloc (Obj.cells #[.int .u8 2, .int .u8 3, .int .u8 4, .int .u8 6] 61)).alloc (Obj.cells #[.int .u8 2, .int .u8 3, .int .u8 4, .int .u8 6] 61) := by
  rcases Int.lt_or_le (shaken a) 0 with h | h
  · have hr : startv a = 5 := by
      have : a ≠ 6 := by rintro rfl; exact absurd h (by decide)
      simp [startv, this]
    rw [hr]; clear hr
    go_enter Try.func42, Try.ntmps42
    go_wp2_with (first | (go_at_call 47; refine (Shaken_no _ (by assumption) _).mono ?_; rintro e w' ⟨rfl, rfl⟩))
    go_ret; exact ⟨rfl, rfl⟩
  by_cases h3 : shaken a = 3
  · have ha : a = 6 := by
      unfold shaken at h3
      repeat' (first | omega | split at h3)
    subst ha
    clear h3 h
    go_enter Try.func42, Try.ntmps42
    go_wp2_with (go_at_call 47; refine (Shaken_yes _ (by decide) _).mono ?_; rw [show shaken 6 = 3 from rfl]; rintro e w' ⟨rfl, rfl⟩)
    go_ret; exact ⟨rfl, rfl⟩
  · have hr : startv a = 5 := by
      have : a ≠ 6 := by rintro rfl; exact absurd rfl h3
      simp [startv, this]
    rw [hr]; clear hr
    have hb : (shaken a == 3) = false := by simpa using h3
    go_enter Try.func42, Try.ntmps42
    go_wp2_with (first | (go_at_call 47; refine (Shaken_yes _ (by assumption) _).mono ?_; rintro e w' ⟨rfl, rfl⟩))
    go_ret; exact ⟨rfl, rfl⟩
set_option maxHeartbeats 800000 in
theorem Settle_calls (want r : Int) (w : World) : Calls Try.prog 41 #[.int .i64 want, .int .u8 r] w fun e w' => e = .returned (.tuple #[.int .i64 (settle want r).1, .int .i64 (settle want r).2]) ∧ w' = (w.alloc (Obj.cells #[.int .u8 2, .int .u8 3, .int .u8 4, .int .u8 6] 61)).alloc (Obj.cells #[.int .u8 2, .int .u8 3, .int .u8 4, .int .u8 6] 61) := by
  rcases Int.lt_or_le (shaken r) 0 with h | h
  · have hn : ¬ 0 ≤ shaken r := by omega
    by_cases h1 : 1 ≤ want
    · by_cases r1 : r = 1
      · subst r1
        have hr : settle want 1 = (1, 0) := by simp [settle, h1, hn]
        rw [hr]; clear hr hn
        by_cases h2 : 2 ≤ want
        all_goals
          go_enter Try.func41, Try.ntmps41
          go_wp2_with (first | (go_at_call 47; refine (Shaken_no _ (by assumption) _).mono ?_; rintro e w' ⟨rfl, rfl⟩))
          go_ret2; exact ⟨rfl, rfl⟩
      by_cases r5 : r = 5
      · subst r5
        have hr : settle want 5 = (1, 0) := by simp [settle, h1, hn]
        rw [hr]; clear hr hn
        by_cases h2 : 2 ≤ want
        all_goals
          go_enter Try.func41, Try.ntmps41
          go_wp2_with (first | (go_at_call 47; refine (Shaken_no _ (by assumption) _).mono ?_; rintro e w' ⟨rfl, rfl⟩))
          go_ret2; exact ⟨rfl, rfl⟩
      have hr : settle want r = (0, 0) := by simp [settle, r1, r5, hn]
      rw [hr]; clear hr hn
      have b1 : (r == 1) = false := by simpa using r1
      have b5 : (r == 5) = false := by simpa using r5
      by_cases h2 : 2 ≤ want
      all_goals
        go_enter Try.func41, Try.ntmps41
        go_wp2_with (first | (go_at_call 47; refine (Shaken_no _ (by assumption) _).mono ?_; rintro e w' ⟨rfl, rfl⟩))
        go_ret2; exact ⟨rfl, rfl⟩
    · have hr : settle want r = (0, 0) := by simp [settle, h1, hn]
      rw [hr]; clear hr hn
      have h2 : ¬ 2 ≤ want := by omega
      go_enter Try.func41, Try.ntmps41
      go_wp2_with (first | (go_at_call 47; refine (Shaken_no _ (by assumption) _).mono ?_; rintro e w' ⟨rfl, rfl⟩))
      go_ret2; exact ⟨rfl, rfl⟩
  · have r1 : r ≠ 1 := by rintro rfl; exact absurd h (by decide)
    have r5 : r ≠ 5 := by rintro rfl; exact absurd h (by decide)
    by_cases h2 : 2 ≤ want
    · have hr : settle want r = (2, shaken r) := by simp [settle, h2, h]
      rw [hr]; clear hr
      go_enter Try.func41, Try.ntmps41
      go_wp2_with (first | (go_at_call 47; refine (Shaken_yes _ (by assumption) _).mono ?_; rintro e w' ⟨rfl, rfl⟩))
      go_ret2; exact ⟨rfl, rfl⟩
    · have hr : settle want r = (0, 0) := by simp [settle, r1, r5, h2]
      rw [hr]; clear hr
      have b1 : (r == 1) = false := by simpa using r1
      have b5 : (r == 5) = false := by simpa using r5
      clear r1 r5
      by_cases h1 : 1 ≤ want
      all_goals
        go_enter Try.func41, Try.ntmps41
        go_wp2_with (first | (go_at_call 47; refine (Shaken_yes _ (by assumption) _).mono ?_; rintro e w' ⟨rfl, rfl⟩))
        go_ret2; exact ⟨rfl, rfl⟩
set_option maxHeartbeats 800000 in
theorem Reply_yes (code able : Int) (h : 2 ≤ able) (w : World) : Calls Try.prog 40 #[.int .u8 7, .int .i64 code, .int .i64 able] w fun e w' => e = .returned (.tuple #[.int .u8 (replyv 7 code able).1, .int .i64 2]) ∧ w' = (((w.alloc (Obj.cells #[.int .u8 2, .int .u8 3, .int .u8 4, .int .u8 6] 61)).alloc (Obj.cells #[.int .u8 2, .int .u8 3, .int .u8 4, .int .u8 6] 61)).alloc (Obj.cells #[.int .u8 2, .int .u8 3, .int .u8 4, .int .u8 6] 61)).alloc (Obj.cells #[.int .u8 2, .int .u8 3, .int .u8 4, .int .u8 6] 61) := by
  have hr : (replyv 7 code able).1 = if shake code < 2 then 2 else shake code := by simp [replyv, h]
  rw [hr]; clear hr
  have h0 : shake 0 = 2 := rfl
  have hs : 0 ≤ shake code := by unfold shake; repeat' (first | omega | split)
  by_cases h1 : shake code < 2
  · rw [if_pos h1]
    go_enter Try.func40, Try.ntmps40
    go_wp2_with (first | (go_at_call 31; refine (Shake_calls _ _).mono ?_; rintro e w' ⟨rfl, rfl⟩))
    go_ret2; exact ⟨rfl, rfl⟩
  · rw [if_neg h1]
    have h2 : 2 ≤ shake code := by omega
    clear h1 hs
    go_enter Try.func40, Try.ntmps40
    go_wp2_with (first | (go_at_call 31; refine (Shake_calls _ _).mono ?_; rintro e w' ⟨rfl, rfl⟩))
    go_ret2; exact ⟨rfl, rfl⟩
set_option maxHeartbeats 800000 in
theorem Reply_no (ask code able : Int) (h : ¬ (ask = 7 ∧ 2 ≤ able)) (w : World) : Calls Try.prog 40 #[.int .u8 ask, .int .i64 code, .int .i64 able] w fun e w' => e = .returned (.tuple #[.int .u8 (replyv ask code able).1, .int .i64 (replyv ask code able).2]) ∧ w' = w := by
  by_cases h7 : ask = 7
  · subst h7
    have h2 : ¬ 2 ≤ able := fun x => h ⟨rfl, x⟩
    by_cases h1 : 1 ≤ able
    · have hr : replyv 7 code able = (1, 1) := by simp [replyv, h2, h1]
      rw [hr]; clear hr h
      go_enter Try.func40, Try.ntmps40
      go_wp2
      go_ret2; exact ⟨rfl, rfl⟩
    · have hr : replyv 7 code able = (0, 0) := by simp [replyv, h2, h1]
      rw [hr]; clear hr h
      go_enter Try.func40, Try.ntmps40
      go_wp2
      go_ret2; exact ⟨rfl, rfl⟩
  by_cases h3 : ask = 3
  · subst h3
    by_cases h1 : 1 ≤ able
    · have hr : replyv 3 code able = (1, 1) := by simp [replyv, h1]
      rw [hr]; clear hr h
      go_enter Try.func40, Try.ntmps40
      go_wp2
      go_ret2; exact ⟨rfl, rfl⟩
    · have hr : replyv 3 code able = (0, 0) := by simp [replyv, h1]
      rw [hr]; clear hr h
      go_enter Try.func40, Try.ntmps40
      go_wp2
      go_ret2; exact ⟨rfl, rfl⟩
  have hr : replyv ask code able = (0, 0) := by simp [replyv, h7, h3]
  rw [hr]; clear hr h
  have b7 : (ask == 7) = false := by simpa using h7
  have b3 : (ask == 3) = false := by simpa using h3
  go_enter Try.func40, Try.ntmps40
  go_wp2
  go_ret2; exact ⟨rfl, rfl⟩
end Go.Proofs.Ytbklomnlhpbhnaa
