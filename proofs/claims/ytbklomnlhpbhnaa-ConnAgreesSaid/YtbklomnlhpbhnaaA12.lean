import Derived.Test.YtbklomnlhpbhnaaA11
namespace Go.Proofs.Ytbklomnlhpbhnaa
open Go.RowKit
set_option linter.unusedSimpArgs false

def listenv (x : C) : C := if x.st = 0 then ⟨1, x.want, x.iss, x.una, x.nxt, x.rcv, x.mode, x.code, x.reply, x.start, x.tries⟩ else x
def clampw (x : Int) : Int := if x < 0 then 0 else if 2 < x then 2 else x
def newv (want iss : Int) : C := ⟨0, clampw want, iss, 0, 0, 0, 0, 0, 0, 5, 0⟩
theorem listen_yes (b c d e f g h i j k : Int) (w : World) : Calls Try.prog 17 #[(Value.agg #[.int .i64 0, .int .i64 b, .int .u32 c, .int .u32 d, .int .u32 e, .int .u32 f, .int .i64 g, .int .i64 h, .int .u8 i, .int .i64 j, .int .i64 k])] w fun e_ w' => e_ = .returned (Value.agg #[.int .i64 1, .int .i64 b, .int .u32 c, .int .u32 d, .int .u32 e, .int .u32 f, .int .i64 g, .int .i64 h, .int .u8 i, .int .i64 j, .int .i64 k]) ∧ w' = (w.alloc (Obj.cells #[.int .i64 1, .int .i64 b, .int .u32 c, .int .u32 d, .int .u32 e, .int .u32 f, .int .i64 g, .int .i64 h, .int .u8 i, .int .i64 j, .int .i64 k] 27)).alloc (Obj.cells #[.int .i64 1, .int .i64 b, .int .u32 c, .int .u32 d, .int .u32 e, .int .u32 f, .int .i64 g, .int .i64 h, .int .u8 i, .int .i64 j, .int .i64 k] 27) := by
  go_enter Try.func17, Try.ntmps17
  go_wp2
  exact bodyPost_ret (v := (Value.agg #[.int .i64 1, .int .i64 b, .int .u32 c, .int .u32 d, .int .u32 e, .int .u32 f, .int .i64 g, .int .i64 h, .int .u8 i, .int .i64 j, .int .i64 k])) (by simp [results, Try.results17, go_sem]) rfl ⟨rfl, rfl⟩
theorem listen_no (a b c d e f g h i j k : Int) (h0 : ¬ a = 0) (w : World) : Calls Try.prog 17 #[(Value.agg #[.int .i64 a, .int .i64 b, .int .u32 c, .int .u32 d, .int .u32 e, .int .u32 f, .int .i64 g, .int .i64 h, .int .u8 i, .int .i64 j, .int .i64 k])] w fun e_ w' => e_ = .returned (Value.agg #[.int .i64 a, .int .i64 b, .int .u32 c, .int .u32 d, .int .u32 e, .int .u32 f, .int .i64 g, .int .i64 h, .int .u8 i, .int .i64 j, .int .i64 k]) ∧ w' = (w.alloc (Obj.cells #[.int .i64 a, .int .i64 b, .int .u32 c, .int .u32 d, .int .u32 e, .int .u32 f, .int .i64 g, .int .i64 h, .int .u8 i, .int .i64 j, .int .i64 k] 27)).alloc (Obj.cells #[.int .i64 a, .int .i64 b, .int .u32 c, .int .u32 d, .int .u32 e, .int .u32 f, .int .i64 g, .int .i64 h, .int .u8 i, .int .i64 j, .int .i64 k] 27) := by
  have b0 : (a == 0) = false := by simpa using h0
  go_enter Try.func17, Try.ntmps17
  go_wp2
  exact bodyPost_ret (v := (Value.agg #[.int .i64 a, .int .i64 b, .int .u32 c, .int .u32 d, .int .u32 e, .int .u32 f, .int .i64 g, .int .i64 h, .int .u8 i, .int .i64 j, .int .i64 k])) (by simp [results, Try.results17, go_sem]) rfl ⟨rfl, rfl⟩
theorem new_calls (want iss : Int) (w : World) : Calls Try.prog 18 #[.int .i64 want, .int .u32 iss] w fun e_ w' => e_ = .returned (Value.agg #[.int .i64 0, .int .i64 (clampw want), .int .u32 iss, .int .u32 0, .int .u32 0, .int .u32 0, .int .i64 0, .int .i64 0, .int .u8 0, .int .i64 5, .int .i64 0]) ∧ w' = w.alloc (Obj.cells #[.int .i64 0, .int .i64 (clampw want), .int .u32 iss, .int .u32 0, .int .u32 0, .int .u32 0, .int .i64 0, .int .i64 0, .int .u8 0, .int .i64 5, .int .i64 0] 27) := by
  have hc : clampw want = if want < 0 then 0 else if 2 < want then 2 else want := rfl
  by_cases h1 : want < 0
  · rw [hc, if_pos h1]; clear hc
    have h2 : want ≤ 2 := by omega
    go_enter Try.func18, Try.ntmps18
    go_wp2
    exact bodyPost_ret (v := (Value.agg #[.int .i64 0, .int .i64 0, .int .u32 iss, .int .u32 0, .int .u32 0, .int .u32 0, .int .i64 0, .int .i64 0, .int .u8 0, .int .i64 5, .int .i64 0])) (by simp [results, Try.results18, go_sem]) rfl ⟨rfl, rfl⟩
  by_cases h2 : 2 < want
  · rw [hc, if_neg h1, if_pos h2]; clear hc h1
    go_enter Try.func18, Try.ntmps18
    go_wp2
    exact bodyPost_ret (v := (Value.agg #[.int .i64 0, .int .i64 2, .int .u32 iss, .int .u32 0, .int .u32 0, .int .u32 0, .int .i64 0, .int .i64 0, .int .u8 0, .int .i64 5, .int .i64 0])) (by simp [results, Try.results18, go_sem]) rfl ⟨rfl, rfl⟩
  · rw [hc, if_neg h1, if_neg h2]; clear hc
    have h3 : want ≤ 2 := by omega
    by_cases hz : want = 0
    · subst hz
      go_enter Try.func18, Try.ntmps18
      go_wp2
      exact bodyPost_ret (v := (Value.agg #[.int .i64 0, .int .i64 0, .int .u32 iss, .int .u32 0, .int .u32 0, .int .u32 0, .int .i64 0, .int .i64 0, .int .u8 0, .int .i64 5, .int .i64 0])) (by simp [results, Try.results18, go_sem]) rfl ⟨rfl, rfl⟩
    have h4 : 0 < want := by omega
    clear h1 h2 hz
    go_enter Try.func18, Try.ntmps18
    go_wp2
    exact bodyPost_ret (v := (Value.agg #[.int .i64 0, .int .i64 want, .int .u32 iss, .int .u32 0, .int .u32 0, .int .u32 0, .int .i64 0, .int .i64 0, .int .u8 0, .int .i64 5, .int .i64 0])) (by simp [results, Try.results18, go_sem]) rfl ⟨rfl, rfl⟩
theorem rnew_calls (want iss : Int) (w : World) : Calls Try.prog 19 #[.int .i64 want, .int .u32 iss] w fun e_ w' => e_ = .returned (Value.agg #[.int .i64 0, .int .i64 (clampw want), .int .u32 iss, .int .u32 0, .int .u32 0, .int .u32 0, .int .i64 0, .int .i64 0, .int .u8 0, .int .i64 5, .int .i64 0]) ∧ w' = w.alloc (Obj.cells #[.int .i64 0, .int .i64 (clampw want), .int .u32 iss, .int .u32 0, .int .u32 0, .int .u32 0, .int .i64 0, .int .i64 0, .int .u8 0, .int .i64 5, .int .i64 0] 27) := by
  have hc : clampw want = if want < 0 then 0 else if 2 < want then 2 else want := rfl
  by_cases h1 : want < 0
  · rw [hc, if_pos h1]; clear hc
    have h2 : want ≤ 2 := by omega
    go_enter Try.func19, Try.ntmps19
    go_wp2
    exact bodyPost_ret (v := (Value.agg #[.int .i64 0, .int .i64 0, .int .u32 iss, .int .u32 0, .int .u32 0, .int .u32 0, .int .i64 0, .int .i64 0, .int .u8 0, .int .i64 5, .int .i64 0])) (by simp [results, Try.results19, go_sem]) rfl ⟨rfl, rfl⟩
  by_cases h2 : 2 < want
  · rw [hc, if_neg h1, if_pos h2]; clear hc h1
    go_enter Try.func19, Try.ntmps19
    go_wp2
    exact bodyPost_ret (v := (Value.agg #[.int .i64 0, .int .i64 2, .int .u32 iss, .int .u32 0, .int .u32 0, .int .u32 0, .int .i64 0, .int .i64 0, .int .u8 0, .int .i64 5, .int .i64 0])) (by simp [results, Try.results19, go_sem]) rfl ⟨rfl, rfl⟩
  · rw [hc, if_neg h1, if_neg h2]; clear hc
    have h3 : want ≤ 2 := by omega
    by_cases hz : want = 0
    · subst hz
      go_enter Try.func19, Try.ntmps19
      go_wp2
      exact bodyPost_ret (v := (Value.agg #[.int .i64 0, .int .i64 0, .int .u32 iss, .int .u32 0, .int .u32 0, .int .u32 0, .int .i64 0, .int .i64 0, .int .u8 0, .int .i64 5, .int .i64 0])) (by simp [results, Try.results19, go_sem]) rfl ⟨rfl, rfl⟩
    have h4 : 0 < want := by omega
    clear h1 h2 hz
    go_enter Try.func19, Try.ntmps19
    go_wp2
    exact bodyPost_ret (v := (Value.agg #[.int .i64 0, .int .i64 want, .int .u32 iss, .int .u32 0, .int .u32 0, .int .u32 0, .int .i64 0, .int .i64 0, .int .u8 0, .int .i64 5, .int .i64 0])) (by simp [results, Try.results19, go_sem]) rfl ⟨rfl, rfl⟩
/-- A state's name. -/
def nameB (s : Int) : ByteArray := if s = 0 then ⟨#[99, 108, 111, 115, 101, 100]⟩ else if s = 1 then ⟨#[108, 105, 115, 116, 101, 110, 105, 110, 103]⟩ else if s = 2 then ⟨#[97, 115, 107, 101, 100]⟩ else if s = 3 then ⟨#[116, 111, 108, 100]⟩ else if s = 4 then ⟨#[111, 112, 101, 110]⟩ else if s = 5 then ⟨#[102, 105, 110, 49]⟩ else if s = 6 then ⟨#[102, 105, 110, 50]⟩ else if s = 7 then ⟨#[99, 108, 111, 115, 105, 110, 103]⟩ else if s = 8 then ⟨#[119, 97, 105, 116]⟩ else if s = 9 then ⟨#[108, 101, 102, 116]⟩ else if s = 10 then ⟨#[108, 97, 115, 116]⟩ else ⟨#[]⟩
set_option maxHeartbeats 1000000 in
theorem name_calls (s : Int) (w : World) : Calls Try.prog 20 #[.int .i64 s] w (VPost w (.string (nameB s))) := by
  by_cases h0 : s = 0
  · subst h0; go_enter Try.func20, Try.ntmps20; go_wp2; go_ret; exact ⟨rfl, (by repeat (first | exact Below.refl _ _ | refine Below.drew ?_ | refine below_drewN ?_ _ | (refine Below.alloc ?_ ?hB _; (case hB => first | (simp; done) | (simp; omega)))))⟩
  by_cases h1 : s = 1
  · subst h1; go_enter Try.func20, Try.ntmps20; go_wp2; go_ret; exact ⟨rfl, (by repeat (first | exact Below.refl _ _ | refine Below.drew ?_ | refine below_drewN ?_ _ | (refine Below.alloc ?_ ?hB _; (case hB => first | (simp; done) | (simp; omega)))))⟩
  by_cases h2 : s = 2
  · subst h2; go_enter Try.func20, Try.ntmps20; go_wp2; go_ret; exact ⟨rfl, (by repeat (first | exact Below.refl _ _ | refine Below.drew ?_ | refine below_drewN ?_ _ | (refine Below.alloc ?_ ?hB _; (case hB => first | (simp; done) | (simp; omega)))))⟩
  by_cases h3 : s = 3
  · subst h3; go_enter Try.func20, Try.ntmps20; go_wp2; go_ret; exact ⟨rfl, (by repeat (first | exact Below.refl _ _ | refine Below.drew ?_ | refine below_drewN ?_ _ | (refine Below.alloc ?_ ?hB _; (case hB => first | (simp; done) | (simp; omega)))))⟩
  by_cases h4 : s = 4
  · subst h4; go_enter Try.func20, Try.ntmps20; go_wp2; go_ret; exact ⟨rfl, (by repeat (first | exact Below.refl _ _ | refine Below.drew ?_ | refine below_drewN ?_ _ | (refine Below.alloc ?_ ?hB _; (case hB => first | (simp; done) | (simp; omega)))))⟩
  by_cases h5 : s = 5
  · subst h5; go_enter Try.func20, Try.ntmps20; go_wp2; go_ret; exact ⟨rfl, (by repeat (first | exact Below.refl _ _ | refine Below.drew ?_ | refine below_drewN ?_ _ | (refine Below.alloc ?_ ?hB _; (case hB => first | (simp; done) | (simp; omega)))))⟩
  by_cases h6 : s = 6
  · subst h6; go_enter Try.func20, Try.ntmps20; go_wp2; go_ret; exact ⟨rfl, (by repeat (first | exact Below.refl _ _ | refine Below.drew ?_ | refine below_drewN ?_ _ | (refine Below.alloc ?_ ?hB _; (case hB => first | (simp; done) | (simp; omega)))))⟩
  by_cases h7 : s = 7
  · subst h7; go_enter Try.func20, Try.ntmps20; go_wp2; go_ret; exact ⟨rfl, (by repeat (first | exact Below.refl _ _ | refine Below.drew ?_ | refine below_drewN ?_ _ | (refine Below.alloc ?_ ?hB _; (case hB => first | (simp; done) | (simp; omega)))))⟩
  by_cases h8 : s = 8
  · subst h8; go_enter Try.func20, Try.ntmps20; go_wp2; go_ret; exact ⟨rfl, (by repeat (first | exact Below.refl _ _ | refine Below.drew ?_ | refine below_drewN ?_ _ | (refine Below.alloc ?_ ?hB _; (case hB => first | (simp; done) | (simp; omega)))))⟩
  by_cases h9 : s = 9
  · subst h9; go_enter Try.func20, Try.ntmps20; go_wp2; go_ret; exact ⟨rfl, (by repeat (first | exact Below.refl _ _ | refine Below.drew ?_ | refine below_drewN ?_ _ | (refine Below.alloc ?_ ?hB _; (case hB => first | (simp; done) | (simp; omega)))))⟩
  by_cases h10 : s = 10
  · subst h10; go_enter Try.func20, Try.ntmps20; go_wp2; go_ret; exact ⟨rfl, (by repeat (first | exact Below.refl _ _ | refine Below.drew ?_ | refine below_drewN ?_ _ | (refine Below.alloc ?_ ?hB _; (case hB => first | (simp; done) | (simp; omega)))))⟩
  have hr : nameB s = ⟨#[]⟩ := by simp [nameB, *]
  rw [hr]; clear hr
  by_cases hn : s < 0
  · clear h0 h1 h2 h3 h4 h5 h6 h7 h8 h9 h10
    go_enter Try.func20, Try.ntmps20; go_wp2; go_ret; exact ⟨rfl, (by repeat (first | exact Below.refl _ _ | refine Below.drew ?_ | refine below_drewN ?_ _ | (refine Below.alloc ?_ ?hB _; (case hB => first | (simp; done) | (simp; omega)))))⟩
  · have hp : 11 ≤ s := by omega
    clear hn h0 h1 h2 h3 h4 h5 h6 h7 h8 h9 h10
    go_enter Try.func20, Try.ntmps20; go_wp2; go_ret; exact ⟨rfl, (by repeat (first | exact Below.refl _ _ | refine Below.drew ?_ | refine below_drewN ?_ _ | (refine Below.alloc ?_ ?hB _; (case hB => first | (simp; done) | (simp; omega)))))⟩
set_option maxHeartbeats 1000000 in
theorem rname_calls (s : Int) (w : World) : Calls Try.prog 21 #[.int .i64 s] w (VPost w (.string (nameB s))) := by
  by_cases h0 : s = 0
  · subst h0; go_enter Try.func21, Try.ntmps21; go_wp2; go_ret; exact ⟨rfl, (by repeat (first | exact Below.refl _ _ | refine Below.drew ?_ | refine below_drewN ?_ _ | (refine Below.alloc ?_ ?hB _; (case hB => first | (simp; done) | (simp; omega)))))⟩
  by_cases h1 : s = 1
  · subst h1; go_enter Try.func21, Try.ntmps21; go_wp2; go_ret; exact ⟨rfl, (by repeat (first | exact Below.refl _ _ | refine Below.drew ?_ | refine below_drewN ?_ _ | (refine Below.alloc ?_ ?hB _; (case hB => first | (simp; done) | (simp; omega)))))⟩
  by_cases h2 : s = 2
  · subst h2; go_enter Try.func21, Try.ntmps21; go_wp2; go_ret; exact ⟨rfl, (by repeat (first | exact Below.refl _ _ | refine Below.drew ?_ | refine below_drewN ?_ _ | (refine Below.alloc ?_ ?hB _; (case hB => first | (simp; done) | (simp; omega)))))⟩
  by_cases h3 : s = 3
  · subst h3; go_enter Try.func21, Try.ntmps21; go_wp2; go_ret; exact ⟨rfl, (by repeat (first | exact Below.refl _ _ | refine Below.drew ?_ | refine below_drewN ?_ _ | (refine Below.alloc ?_ ?hB _; (case hB => first | (simp; done) | (simp; omega)))))⟩
  by_cases h4 : s = 4
  · subst h4; go_enter Try.func21, Try.ntmps21; go_wp2; go_ret; exact ⟨rfl, (by repeat (first | exact Below.refl _ _ | refine Below.drew ?_ | refine below_drewN ?_ _ | (refine Below.alloc ?_ ?hB _; (case hB => first | (simp; done) | (simp; omega)))))⟩
  by_cases h5 : s = 5
  · subst h5; go_enter Try.func21, Try.ntmps21; go_wp2; go_ret; exact ⟨rfl, (by repeat (first | exact Below.refl _ _ | refine Below.drew ?_ | refine below_drewN ?_ _ | (refine Below.alloc ?_ ?hB _; (case hB => first | (simp; done) | (simp; omega)))))⟩
  by_cases h6 : s = 6
  · subst h6; go_enter Try.func21, Try.ntmps21; go_wp2; go_ret; exact ⟨rfl, (by repeat (first | exact Below.refl _ _ | refine Below.drew ?_ | refine below_drewN ?_ _ | (refine Below.alloc ?_ ?hB _; (case hB => first | (simp; done) | (simp; omega)))))⟩
  by_cases h7 : s = 7
  · subst h7; go_enter Try.func21, Try.ntmps21; go_wp2; go_ret; exact ⟨rfl, (by repeat (first | exact Below.refl _ _ | refine Below.drew ?_ | refine below_drewN ?_ _ | (refine Below.alloc ?_ ?hB _; (case hB => first | (simp; done) | (simp; omega)))))⟩
  by_cases h8 : s = 8
  · subst h8; go_enter Try.func21, Try.ntmps21; go_wp2; go_ret; exact ⟨rfl, (by repeat (first | exact Below.refl _ _ | refine Below.drew ?_ | refine below_drewN ?_ _ | (refine Below.alloc ?_ ?hB _; (case hB => first | (simp; done) | (simp; omega)))))⟩
  by_cases h9 : s = 9
  · subst h9; go_enter Try.func21, Try.ntmps21; go_wp2; go_ret; exact ⟨rfl, (by repeat (first | exact Below.refl _ _ | refine Below.drew ?_ | refine below_drewN ?_ _ | (refine Below.alloc ?_ ?hB _; (case hB => first | (simp; done) | (simp; omega)))))⟩
  by_cases h10 : s = 10
  · subst h10; go_enter Try.func21, Try.ntmps21; go_wp2; go_ret; exact ⟨rfl, (by repeat (first | exact Below.refl _ _ | refine Below.drew ?_ | refine below_drewN ?_ _ | (refine Below.alloc ?_ ?hB _; (case hB => first | (simp; done) | (simp; omega)))))⟩
  have hr : nameB s = ⟨#[]⟩ := by simp [nameB, *]
  rw [hr]; clear hr
  by_cases hn : s < 0
  · clear h0 h1 h2 h3 h4 h5 h6 h7 h8 h9 h10
    go_enter Try.func21, Try.ntmps21; go_wp2; go_ret; exact ⟨rfl, (by repeat (first | exact Below.refl _ _ | refine Below.drew ?_ | refine below_drewN ?_ _ | (refine Below.alloc ?_ ?hB _; (case hB => first | (simp; done) | (simp; omega)))))⟩
  · have hp : 11 ≤ s := by omega
    clear hn h0 h1 h2 h3 h4 h5 h6 h7 h8 h9 h10
    go_enter Try.func21, Try.ntmps21; go_wp2; go_ret; exact ⟨rfl, (by repeat (first | exact Below.refl _ _ | refine Below.drew ?_ | refine below_drewN ?_ _ | (refine Below.alloc ?_ ?hB _; (case hB => first | (simp; done) | (simp; omega)))))⟩

end Go.Proofs.Ytbklomnlhpbhnaa
