import Derived.Test.YtbklomnlhpbhnaaA11
import Derived.Test.YtbklomnlhpbhnaaA12
import Derived.Test.YtbklomnlhpbhnaaA17
namespace Go.Proofs.Ytbklomnlhpbhnaa
open Go.RowKit
/-! The plain laws: of two ends that hear nobody else. No program stands here. -/
def endv (p : Pr) (i : Nat) : C := if i = 0 then p.x0 else p.x1
def wayv (p : Pr) (i : Nat) : List H := if i = 0 then p.q0 else p.q1
def dropv (p : Pr) (i : Nat) : Pr := if i = 0 then ⟨p.x0, p.x1, p.q0.tail, p.q1, p.o0, p.o1, p.m0, p.m1⟩ else ⟨p.x0, p.x1, p.q0, p.q1.tail, p.o0, p.o1, p.m0, p.m1⟩
def comev (p : Pr) (i : Nat) (u : Int) : Pr :=
  match wayv p i with
  | [] => p
  | x :: _ => moved (dropv p i) i (takev (endv p i) x u).1 (takev (endv p i) x u).2
def timev (p : Pr) (i : Nat) : Pr := moved p i (timeout (endv p i)).1 (timeout (endv p i)).2
def stepv (p : Pr) (b : Nat) : Pr :=
  if b / 2 % 8 = 0 then dropv p (b % 2) else if b / 2 % 8 = 1 then timev p (b % 2) else comev p (b % 2) ((b / 16 % 4 : Nat) : Int)
def begunv (want able i0 i1 : Int) : Pr :=
  moved ⟨newv want i0, listenv (newv able i1), [], [], false, false, 0, 0⟩ 0 (ask (newv want i0)).1 (ask (newv want i0)).2
/-- What is on its way to the one that was asked. -/
def Q1 (want : Int) (x : H) : Prop := (x.flags = 2 ∧ (x.ace = askv want ∨ x.ace = 0)) ∨ x.flags = 16 ∨ x.flags = 4 ∨ x.flags = 20
/-- What is on its way to the one that asks; r: what was answered. -/
def Q0 (R : Option (Int × Int)) (x : H) : Prop := (x.flags = 18 ∧ ∃ r, R = some r ∧ x.ace = r.1) ∨ x.flags = 16 ∨ x.flags = 4 ∨ x.flags = 20
def Fits (want able : Int) (r : Int × Int) : Prop := (settle want r.1).1 = r.2 ∧ (r.2 = min want able ∨ r.2 = 0)
def E0 (want : Int) (R : Option (Int × Int)) (x : C) : Prop := x.want = want ∧ (x.start = 5 ∨ x.start = 6) ∧ (x.st = 2 ∨ x.st = 0 ∨ (x.st = 4 ∧ ∃ r, R = some r ∧ x.mode = r.2))
def E1 (able : Int) (R : Option (Int × Int)) (x : C) : Prop := x.want = able ∧ ((x.st = 1 ∧ R = none) ∨ x.st = 0 ∨ ((x.st = 3 ∨ x.st = 4) ∧ ∃ r, R = some r ∧ x.reply = r.1 ∧ x.mode = r.2))
structure Inv (want able : Int) (R : Option (Int × Int)) (p : Pr) : Prop where
  fits : ∀ r, R = some r → Fits want able r
  e0 : E0 want R p.x0
  e1 : E1 able R p.x1
  q0 : ∀ x ∈ p.q0, Q0 R x
  q1 : ∀ x ∈ p.q1, Q1 want x
  o0 : p.o0 = true → ∃ r, R = some r ∧ p.m0 = r.2
  o1 : p.o1 = true → ∃ r, R = some r ∧ p.m1 = r.2
theorem fits_reply {want able a u : Int} (hw : 0 ≤ want ∧ want ≤ 2) (ha : 0 ≤ able ∧ able ≤ 2) (hq : a = askv want ∨ a = 0) (hu : shake u ≠ 0) : Fits want able (replyv a u able) := by
  have hu' : u = 0 ∨ u = 1 ∨ u = 2 ∨ u = 3 := by unfold shake at hu; omega
  obtain ⟨h1, h2⟩ := hw; obtain ⟨h3, h4⟩ := ha
  have cw : want = 0 ∨ want = 1 ∨ want = 2 := by omega
  have ca : able = 0 ∨ able = 1 ∨ able = 2 := by omega
  clear h1 h2 h3 h4 hu
  rcases cw with rfl | rfl | rfl <;> rcases ca with rfl | rfl | rfl <;> rcases hu' with rfl | rfl | rfl | rfl <;> rcases hq with rfl | rfl <;> (unfold Fits; decide)
@[simp] theorem has_2_1 : has 2 1 = false := by decide
@[simp] theorem has_2_2 : has 2 2 = true := by decide
@[simp] theorem has_2_4 : has 2 4 = false := by decide
@[simp] theorem has_2_16 : has 2 16 = false := by decide
@[simp] theorem has_2_18 : has 2 18 = false := by decide
@[simp] theorem has_4_1 : has 4 1 = false := by decide
@[simp] theorem has_4_2 : has 4 2 = false := by decide
@[simp] theorem has_4_4 : has 4 4 = true := by decide
@[simp] theorem has_4_16 : has 4 16 = false := by decide
@[simp] theorem has_4_18 : has 4 18 = false := by decide
@[simp] theorem has_16_1 : has 16 1 = false := by decide
@[simp] theorem has_16_2 : has 16 2 = false := by decide
@[simp] theorem has_16_4 : has 16 4 = false := by decide
@[simp] theorem has_16_16 : has 16 16 = true := by decide
@[simp] theorem has_16_18 : has 16 18 = false := by decide
@[simp] theorem has_18_1 : has 18 1 = false := by decide
@[simp] theorem has_18_2 : has 18 2 = true := by decide
@[simp] theorem has_18_4 : has 18 4 = false := by decide
@[simp] theorem has_18_16 : has 18 16 = true := by decide
@[simp] theorem has_18_18 : has 18 18 = true := by decide
@[simp] theorem has_20_1 : has 20 1 = false := by decide
@[simp] theorem has_20_2 : has 20 2 = false := by decide
@[simp] theorem has_20_4 : has 20 4 = true := by decide
@[simp] theorem has_20_16 : has 20 16 = true := by decide
@[simp] theorem has_20_18 : has 20 18 = false := by decide
@[simp] theorem has_17_1 : has 17 1 = true := by decide
@[simp] theorem has_17_2 : has 17 2 = false := by decide
@[simp] theorem has_17_4 : has 17 4 = false := by decide
@[simp] theorem has_17_16 : has 17 16 = true := by decide
@[simp] theorem has_17_18 : has 17 18 = false := by decide
theorem Q0.hd16 (R : Option (Int × Int)) (s a n : Int) : Q0 R (hd s a 16 n) := .inr (.inl rfl)
theorem Q0.hd4 (R : Option (Int × Int)) (s a n : Int) : Q0 R (hd s a 4 n) := .inr (.inr (.inl rfl))
theorem Q0.hd20 (R : Option (Int × Int)) (s a n : Int) : Q0 R (hd s a 20 n) := .inr (.inr (.inr rfl))
theorem Q1.hd16 (w s a n : Int) : Q1 w (hd s a 16 n) := .inr (.inl rfl)
theorem Q1.hd4 (w s a n : Int) : Q1 w (hd s a 4 n) := .inr (.inr (.inl rfl))
theorem Q1.hd20 (w s a n : Int) : Q1 w (hd s a 20 n) := .inr (.inr (.inr rfl))
theorem closedv_any (x : C) (m : H) : (closedv x m).1 = x ∧ ((closedv x m).2 = [] ∨ ∃ s a f, (closedv x m).2 = [hd s a f 0] ∧ (f = 4 ∨ f = 20)) := by
  unfold closedv
  by_cases h4 : has m.flags 4 = true
  · simp [h4]
  by_cases h16 : has m.flags 16 = true
  · simp only [h4, h16, if_true]; exact ⟨rfl, .inr ⟨_, _, _, rfl, .inl rfl⟩⟩
  by_cases h2 : has m.flags 2 = true <;> by_cases h1 : has m.flags 1 = true <;> simp only [h4, h16, h2, h1, if_true] <;> exact ⟨rfl, .inr ⟨_, _, _, rfl, .inr rfl⟩⟩
theorem startv_any (y : Int) : startv y = 5 ∨ startv y = 6 := by unfold startv; by_cases h : y = 6 <;> simp [h]
theorem take0 {want : Int} {R : Option (Int × Int)} {x : C} {m : H} (u : Int) (hR : ∀ r, R = some r → (settle want r.1).1 = r.2) (hx : E0 want R x) (hm : Q0 R m) : E0 want R (takev x m u).1 ∧ ∀ y ∈ (takev x m u).2, Q1 want y := by
  obtain ⟨hw, hs, h2 | h0 | ⟨h4, r, hr, hmo⟩⟩ := hx
  · rw [takev, if_neg (by omega), if_neg (by omega), if_pos h2]
    generalize (if shake u = 0 then 0 else u) = u'
    rcases hm with ⟨hf, r, hr, ha⟩ | hf | hf | hf
    · have hset := hR r hr
      unfold askedv
      simp only [hf, has_18_4, has_18_18, has_18_16, true_and]
      by_cases hk : m.ack = x.nxt
      · by_cases h22 : (settle x.want m.ace).1 = 2
        · simp only [hk, h22, if_true, not_true, if_false]
          refine ⟨⟨hw, startv_any _, .inr (.inr ⟨rfl, r, hr, ?_⟩)⟩, ?_⟩
          · show (2 : Int) = r.2
            rw [← hset, ← ha, ← hw, h22]
          · intro y hy; simp at hy; subst hy; exact Q1.hd16 _ _ _ _
        · simp only [hk, h22, if_true, not_true, if_false]
          refine ⟨⟨hw, hs, .inr (.inr ⟨rfl, r, hr, ?_⟩)⟩, ?_⟩
          · show (settle x.want m.ace).1 = r.2
            rw [← hset, ← ha, ← hw]
          · intro y hy; simp at hy; subst hy; exact Q1.hd16 _ _ _ _
      · simp only [hk, not_false_eq_true, if_true, if_false]
        refine ⟨⟨hw, hs, .inl h2⟩, ?_⟩
        intro y hy; simp at hy; subst hy; exact Q1.hd4 _ _ _ _
    · unfold askedv
      simp only [hf, has_16_4, has_16_18, if_true]
      exact ⟨⟨hw, hs, .inl h2⟩, by simp⟩
    · unfold askedv
      simp only [hf, has_4_4, has_4_16, if_true]
      exact ⟨⟨hw, hs, .inl h2⟩, by simp⟩
    · unfold askedv
      simp only [hf, has_20_4, has_20_16, true_and, if_true]
      by_cases hk : m.ack = x.nxt
      · simp only [hk, if_true]; exact ⟨⟨hw, hs, .inr (.inl rfl)⟩, by simp⟩
      · simp only [hk, if_false]; exact ⟨⟨hw, hs, .inl h2⟩, by simp⟩
  · rw [takev, if_pos h0]
    obtain ⟨e, h | ⟨s, a, f, h, hf⟩⟩ := closedv_any x m
    · rw [e, h]; exact ⟨⟨hw, hs, .inr (.inl h0)⟩, by simp⟩
    · rw [e, h]
      refine ⟨⟨hw, hs, .inr (.inl h0)⟩, fun y hy => ?_⟩
      simp at hy; subst hy
      rcases hf with rfl | rfl
      · exact Q1.hd4 _ _ _ _
      · exact Q1.hd20 _ _ _ _
  · rw [takev, if_neg (by omega), if_neg (by omega), if_neg (by omega)]
    have E : E0 want R x := ⟨hw, hs, .inr (.inr ⟨h4, r, hr, hmo⟩)⟩
    have hno : has m.flags 1 = false := by rcases hm with ⟨hf, _⟩ | hf | hf | hf <;> simp [hf]
    have tl : ∀ x : C, x.st = 4 → E0 want R x → E0 want R (tailv x m).1 ∧ ∀ y ∈ (tailv x m).2, Q1 want y := by
      intro x h4 E
      unfold tailv
      rw [if_neg (by omega)]
      simp only [hno]
      by_cases hu : x.una = x.nxt
      · simp only [hu, if_true, if_false, Bool.false_eq_true]
        refine ⟨⟨E.1, E.2.1, .inr (.inr ⟨by show heardv x.st = 4; rw [h4]; rfl, ?_⟩)⟩, by simp⟩
        rcases E.2.2 with q | q | ⟨_, q⟩
        · omega
        · omega
        · exact q
      · simp only [hu, if_false, Bool.false_eq_true]
        exact ⟨E, by simp⟩
    unfold othersv
    by_cases c1 : has m.flags 4 = true
    · rw [if_pos c1]
      by_cases c2 : m.seq = x.rcv
      · rw [if_pos c2]; exact ⟨⟨hw, hs, .inr (.inl rfl)⟩, by simp⟩
      · rw [if_neg c2]; exact ⟨E, by simp⟩
    rw [if_neg c1]
    by_cases c2 : has m.flags 2 = true
    · rw [if_pos c2, if_neg (fun h => by omega)]
      exact ⟨E, fun y hy => by simp at hy; subst hy; exact Q1.hd16 _ _ _ _⟩
    rw [if_neg c2]
    by_cases c3 : m.seq ≠ x.rcv
    · rw [if_pos c3]
      exact ⟨E, fun y hy => by simp at hy; subst hy; exact Q1.hd16 _ _ _ _⟩
    rw [if_neg c3]
    by_cases c4 : has m.flags 16 = false
    · rw [if_pos c4]
      exact ⟨E, by simp⟩
    rw [if_neg c4]
    by_cases c5 : newer m.ack x.nxt = true
    · rw [if_pos c5]
      exact ⟨E, fun y hy => by simp at hy; subst hy; exact Q1.hd16 _ _ _ _⟩
    rw [if_neg c5]
    by_cases c6 : newer m.ack x.una = true
    · rw [if_pos c6]
      exact tl _ h4 ⟨hw, hs, .inr (.inr ⟨h4, r, hr, hmo⟩)⟩
    · rw [if_neg c6]
      exact tl _ h4 E
theorem Q0.more {R R' : Option (Int × Int)} {x : H} (h : Q0 R x) (hR : R = none ∨ R' = R) : Q0 R' x := by
  rcases h with ⟨hf, r, hr, ha⟩ | h
  · rcases hR with rfl | rfl
    · cases hr
    · exact .inl ⟨hf, r, hr, ha⟩
  · exact .inr h
theorem take1 {want able : Int} {R : Option (Int × Int)} {x : C} {m : H} (u : Int) (hwant : 0 ≤ want ∧ want ≤ 2) (hable : 0 ≤ able ∧ able ≤ 2) (hfit : ∀ r, R = some r → Fits want able r) (hx : E1 able R x) (hm : Q1 want m) :
    ∃ R', (R = none ∨ R' = R) ∧ (∀ r, R' = some r → Fits want able r) ∧ E1 able R' (takev x m u).1 ∧ ∀ y ∈ (takev x m u).2, Q0 R' y := by
  obtain ⟨hw, ⟨h1, hn⟩ | h0 | ⟨h34, r, hr, hre, hmo⟩⟩ := hx
  · rw [takev, if_neg (by omega), if_pos h1]
    have hsh : shake (if shake u = 0 then 0 else u) ≠ 0 := by
      by_cases h : shake u = 0
      · rw [if_pos h]; decide
      · rw [if_neg h]; exact h
    generalize (if shake u = 0 then 0 else u) = u' at hsh
    unfold listeningv
    by_cases c1 : has m.flags 4 = true
    · rw [if_pos c1]; exact ⟨R, .inr rfl, hfit, ⟨hw, .inl ⟨h1, hn⟩⟩, by simp⟩
    rw [if_neg c1]
    by_cases c2 : has m.flags 16 = true
    · rw [if_pos c2]; exact ⟨R, .inr rfl, hfit, ⟨hw, .inl ⟨h1, hn⟩⟩, fun y hy => by simp at hy; subst hy; exact Q0.hd4 _ _ _ _⟩
    rw [if_neg c2]
    rcases hm with ⟨hf, ha⟩ | hf | hf | hf
    · rw [if_pos (by rw [hf]; rfl)]
      refine ⟨some (replyv m.ace u' x.want), .inl hn, fun r hr => ?_, ⟨hw, .inr (.inr ⟨.inl rfl, _, rfl, rfl, rfl⟩)⟩, fun y hy => ?_⟩
      · injection hr with hr
        rw [← hr, hw]
        exact fits_reply hwant hable ha hsh
      · simp at hy; subst hy; exact .inl ⟨rfl, _, rfl, rfl⟩
    · rw [hf] at c2; exact absurd rfl c2
    · rw [hf] at c1; exact absurd rfl c1
    · rw [hf] at c1; exact absurd rfl c1
  · rw [takev, if_pos h0]
    obtain ⟨e, h | ⟨s, a, f, h, hf⟩⟩ := closedv_any x m
    · rw [e, h]; exact ⟨R, .inr rfl, hfit, ⟨hw, .inr (.inl h0)⟩, by simp⟩
    · rw [e, h]
      refine ⟨R, .inr rfl, hfit, ⟨hw, .inr (.inl h0)⟩, fun y hy => ?_⟩
      simp at hy; subst hy
      rcases hf with rfl | rfl
      · exact Q0.hd4 _ _ _ _
      · exact Q0.hd20 _ _ _ _
  · rw [takev, if_neg (by omega), if_neg (by omega), if_neg (by omega)]
    have E : E1 able R x := ⟨hw, .inr (.inr ⟨h34, r, hr, hre, hmo⟩)⟩
    have hno : has m.flags 1 = false := by rcases hm with ⟨hf, _⟩ | hf | hf | hf <;> simp [hf]
    refine ⟨R, .inr rfl, hfit, ?_⟩
    have tl : ∀ x : C, x.want = able → (x.st = 3 ∨ x.st = 4) → x.reply = r.1 → x.mode = r.2 → E1 able R (tailv x m).1 ∧ ∀ y ∈ (tailv x m).2, Q0 R y := by
      intro x hw h34 hre hmo
      have E : E1 able R x := ⟨hw, .inr (.inr ⟨h34, r, hr, hre, hmo⟩)⟩
      unfold tailv
      by_cases h3 : x.st = 3
      · rw [if_pos h3]
        by_cases hu : x.una ≠ x.nxt
        · rw [if_pos hu]; exact ⟨E, by simp⟩
        · rw [if_neg hu, hno, if_neg (by simp)]
          refine ⟨?_, by simp⟩
          unfold openedv
          by_cases h2 : x.mode = 2
          · rw [if_pos h2]; exact ⟨hw, .inr (.inr ⟨.inr rfl, r, hr, hre, hmo⟩)⟩
          · rw [if_neg h2]; exact ⟨hw, .inr (.inr ⟨.inr rfl, r, hr, hre, hmo⟩)⟩
      · have h4 : x.st = 4 := by omega
        rw [if_neg h3]
        by_cases hu : x.una = x.nxt
        · rw [if_pos hu, hno, if_neg (by simp)]
          refine ⟨⟨hw, .inr (.inr ⟨.inr (by show heardv x.st = 4; rw [h4]; rfl), r, hr, hre, hmo⟩)⟩, by simp⟩
        · rw [if_neg hu, hno, if_neg (by simp)]
          exact ⟨E, by simp⟩
    unfold othersv
    by_cases c1 : has m.flags 4 = true
    · rw [if_pos c1]
      by_cases c2 : m.seq = x.rcv
      · rw [if_pos c2]; exact ⟨⟨hw, .inr (.inl rfl)⟩, by simp⟩
      · rw [if_neg c2]; exact ⟨E, by simp⟩
    rw [if_neg c1]
    by_cases c2 : has m.flags 2 = true
    · rw [if_pos c2]
      by_cases c7 : x.st = 3 ∧ has m.flags 16 = false ∧ m.seq = (x.rcv - 1) % 4294967296
      · rw [if_pos c7]
        exact ⟨E, fun y hy => by simp at hy; subst hy; exact .inl ⟨rfl, r, hr, hre⟩⟩
      · rw [if_neg c7]
        exact ⟨E, fun y hy => by simp at hy; subst hy; exact Q0.hd16 _ _ _ _⟩
    rw [if_neg c2]
    by_cases c3 : m.seq ≠ x.rcv
    · rw [if_pos c3]
      exact ⟨E, fun y hy => by simp at hy; subst hy; exact Q0.hd16 _ _ _ _⟩
    rw [if_neg c3]
    by_cases c4 : has m.flags 16 = false
    · rw [if_pos c4]
      exact ⟨E, by simp⟩
    rw [if_neg c4]
    by_cases c5 : newer m.ack x.nxt = true
    · rw [if_pos c5]
      exact ⟨E, fun y hy => by simp at hy; subst hy; exact Q0.hd16 _ _ _ _⟩
    rw [if_neg c5]
    by_cases c6 : newer m.ack x.una = true
    · rw [if_pos c6]
      exact tl _ hw h34 hre hmo
    · rw [if_neg c6]
      exact tl _ hw h34 hre hmo
theorem time0 {want : Int} {R : Option (Int × Int)} {x : C} (hx : E0 want R x) : E0 want R (timeout x).1 ∧ ∀ y ∈ (timeout x).2, Q1 want y := by
  obtain ⟨hw, hs, hst⟩ := hx
  unfold timeout
  rw [if_neg (by omega)]
  by_cases h2 : x.st = 2
  · rw [if_pos (.inl h2)]
    by_cases h6 : 6 ≤ x.tries
    · rw [if_pos h6]; exact ⟨⟨hw, hs, .inr (.inl rfl)⟩, fun y hy => by simp at hy; subst hy; exact Q1.hd20 _ _ _ _⟩
    · rw [if_neg h6, if_pos h2]
      refine ⟨⟨hw, hs, .inl h2⟩, fun y hy => ?_⟩
      simp at hy; subst hy
      refine .inl ⟨rfl, ?_⟩
      by_cases h : wrap64 (x.tries + 1) < 2
      · rw [if_pos h]; exact .inl (by rw [hw])
      · rw [if_neg h]; exact .inr rfl
  · rw [if_neg (by omega)]; exact ⟨⟨hw, hs, hst⟩, by simp⟩
theorem time1 {able : Int} {R : Option (Int × Int)} {x : C} (hx : E1 able R x) : E1 able R (timeout x).1 ∧ ∀ y ∈ (timeout x).2, Q0 R y := by
  have E := hx
  obtain ⟨hw, hst⟩ := hx
  have h8 : ¬ x.st = 8 := by
    intro h
    rcases hst with ⟨q, _⟩ | q | ⟨q | q, _⟩ <;> exact absurd (q.symm.trans h) (by decide)
  unfold timeout
  rw [if_neg h8]
  by_cases h3 : x.st = 3
  · obtain ⟨r, hr, hre, hmo⟩ : ∃ r, R = some r ∧ x.reply = r.1 ∧ x.mode = r.2 := by
      rcases hst with ⟨h, _⟩ | h | ⟨_, h⟩
      · exact absurd (h.symm.trans h3) (by decide)
      · exact absurd (h.symm.trans h3) (by decide)
      · exact h
    rw [if_pos (.inr (.inl h3))]
    by_cases h6 : 6 ≤ x.tries
    · rw [if_pos h6]; exact ⟨⟨hw, .inr (.inl rfl)⟩, fun y hy => by simp at hy; subst hy; exact Q0.hd20 _ _ _ _⟩
    · rw [if_neg h6, if_neg (fun h => absurd (h.symm.trans h3) (by decide)), if_pos h3]
      refine ⟨⟨hw, .inr (.inr ⟨.inl h3, r, hr, hre, hmo⟩)⟩, fun y hy => ?_⟩
      simp at hy; subst hy
      exact .inl ⟨rfl, r, hr, hre⟩
  · have hc : x.st = 1 ∨ x.st = 0 ∨ x.st = 4 := by
      rcases hst with ⟨h, _⟩ | h | ⟨h | h, _⟩
      · exact .inl h
      · exact .inr (.inl h)
      · exact absurd h h3
      · exact .inr (.inr h)
    clear hst
    rw [if_neg (by omega)]; exact ⟨E, by simp⟩
theorem moved0 {want able : Int} {R : Option (Int × Int)} {p : Pr} {c : C} {l : List H} (h : Inv want able R p) (hc : E0 want R c) (hl : ∀ y ∈ l, Q1 want y) : Inv want able R (moved p 0 c l) := by
  unfold moved
  rw [if_pos rfl]
  refine ⟨h.fits, hc, h.e1, h.q0, fun x hx => ?_, fun ho => ?_, h.o1⟩
  · rcases List.mem_append.1 hx with hx | hx
    · exact h.q1 x hx
    · exact hl x hx
  · by_cases h4 : c.st = 4
    · cases hp : p.o0
      · simp only [h4, true_and, if_true]
        obtain ⟨_, _, q | q | ⟨_, q⟩⟩ := hc
        · omega
        · omega
        · exact q
      · simp only [and_false, if_false, Bool.true_eq_false]
        exact h.o0 hp
    · have hp : p.o0 = true := by simpa [h4] using ho
      simp only [h4, false_and, if_false]
      exact h.o0 hp
theorem moved1 {want able : Int} {R R' : Option (Int × Int)} {p : Pr} {c : C} {l : List H} (h : Inv want able R p) (hR : R = none ∨ R' = R) (hfit : ∀ r, R' = some r → Fits want able r) (hc : E1 able R' c) (hl : ∀ y ∈ l, Q0 R' y) : Inv want able R' (moved p 1 c l) := by
  have up : ∀ m : Int, (∃ r, R = some r ∧ m = r.2) → ∃ r, R' = some r ∧ m = r.2 := by
    rintro m ⟨r, hr, hm⟩
    rcases hR with rfl | rfl
    · cases hr
    · exact ⟨r, hr, hm⟩
  unfold moved
  rw [if_neg (by omega)]
  refine ⟨hfit, ?_, hc, fun x hx => ?_, h.q1, fun ho => up _ (h.o0 ho), fun ho => ?_⟩
  · obtain ⟨a, b, q | q | ⟨q1, r, hr, hm⟩⟩ := h.e0
    · exact ⟨a, b, .inl q⟩
    · exact ⟨a, b, .inr (.inl q)⟩
    · exact ⟨a, b, .inr (.inr ⟨q1, up _ ⟨r, hr, hm⟩⟩)⟩
  · rcases List.mem_append.1 hx with hx | hx
    · exact (h.q0 x hx).more hR
    · exact hl x hx
  · by_cases h4 : c.st = 4
    · cases hp : p.o1
      · simp only [h4, true_and, if_true]
        obtain ⟨_, ⟨q, _⟩ | q | ⟨_, r, hr, _, hm⟩⟩ := hc
        · omega
        · omega
        · exact ⟨r, hr, hm⟩
      · simp only [and_false, if_false, Bool.true_eq_false]
        exact up _ (h.o1 hp)
    · have hp : p.o1 = true := by simpa [h4] using ho
      simp only [h4, false_and, if_false]
      exact up _ (h.o1 hp)
theorem inv_drop {want able : Int} {R : Option (Int × Int)} {p : Pr} (h : Inv want able R p) (i : Nat) : Inv want able R (dropv p i) := by
  unfold dropv
  by_cases hi : i = 0
  · rw [if_pos hi]; exact ⟨h.fits, h.e0, h.e1, fun x hx => h.q0 x (List.mem_of_mem_tail hx), h.q1, h.o0, h.o1⟩
  · rw [if_neg hi]; exact ⟨h.fits, h.e0, h.e1, h.q0, fun x hx => h.q1 x (List.mem_of_mem_tail hx), h.o0, h.o1⟩
theorem inv_come {want able : Int} {R : Option (Int × Int)} {p : Pr} (hwant : 0 ≤ want ∧ want ≤ 2) (hable : 0 ≤ able ∧ able ≤ 2) (h : Inv want able R p) (i : Nat) (hi : i < 2) (u : Int) : ∃ R', Inv want able R' (comev p i u) := by
  unfold comev
  rcases (by omega : i = 0 ∨ i = 1) with rfl | rfl
  · cases hq : wayv p 0 with
    | nil => exact ⟨R, h⟩
    | cons x l =>
      have hx : x ∈ p.q0 := by have : p.q0 = x :: l := hq; rw [this]; simp
      have := take0 u (fun r hr => (h.fits r hr).1) h.e0 (h.q0 x hx)
      exact ⟨R, moved0 (inv_drop h 0) this.1 this.2⟩
  · cases hq : wayv p 1 with
    | nil => exact ⟨R, h⟩
    | cons x l =>
      have hx : x ∈ p.q1 := by have : p.q1 = x :: l := hq; rw [this]; simp
      obtain ⟨R', hR, hfit, h1, h2⟩ := take1 u hwant hable h.fits h.e1 (h.q1 x hx)
      exact ⟨R', moved1 (inv_drop h 1) hR hfit h1 h2⟩
theorem inv_time {want able : Int} {R : Option (Int × Int)} {p : Pr} (h : Inv want able R p) (i : Nat) (hi : i < 2) : Inv want able R (timev p i) := by
  unfold timev
  rcases (by omega : i = 0 ∨ i = 1) with rfl | rfl
  · have := time0 h.e0
    exact moved0 h this.1 this.2
  · have := time1 h.e1
    exact moved1 h (.inr rfl) h.fits this.1 this.2
theorem inv_step {want able : Int} {R : Option (Int × Int)} {p : Pr} (hwant : 0 ≤ want ∧ want ≤ 2) (hable : 0 ≤ able ∧ able ≤ 2) (h : Inv want able R p) (b : Nat) : ∃ R', Inv want able R' (stepv p b) := by
  unfold stepv
  by_cases h0 : b / 2 % 8 = 0
  · rw [if_pos h0]; exact ⟨R, inv_drop h _⟩
  rw [if_neg h0]
  by_cases h1 : b / 2 % 8 = 1
  · rw [if_pos h1]; exact ⟨R, inv_time h _ (by omega)⟩
  rw [if_neg h1]
  exact inv_come hwant hable h _ (by omega) _
theorem clampw_of {w : Int} (h : 0 ≤ w ∧ w ≤ 2) : clampw w = w := by unfold clampw; rw [if_neg (by omega), if_neg (by omega)]
theorem inv_begun {want able : Int} (hwant : 0 ≤ want ∧ want ≤ 2) (hable : 0 ≤ able ∧ able ≤ 2) (i0 i1 : Int) : Inv want able none (begunv want able i0 i1) := by
  have hn : newv want i0 = ⟨0, want, i0, 0, 0, 0, 0, 0, 0, 5, 0⟩ := by unfold newv; rw [clampw_of hwant]
  have hl : listenv (newv able i1) = ⟨1, able, i1, 0, 0, 0, 0, 0, 0, 5, 0⟩ := by unfold newv; rw [clampw_of hable]; rfl
  unfold begunv
  rw [hn, hl]
  refine moved0 ⟨by simp, ⟨rfl, .inl rfl, .inr (.inl rfl)⟩, ⟨rfl, .inl ⟨rfl, rfl⟩⟩, by simp, by simp, by simp, by simp⟩ ⟨rfl, .inl rfl, .inl rfl⟩ (fun y hy => ?_)
  · have : y = hd i0 0 2 (askv want) := by simpa [ask] using hy
    subst this
    exact .inl ⟨rfl, .inl rfl⟩
theorem Inv.law {want able : Int} {R : Option (Int × Int)} {p : Pr} (h : Inv want able R p) (h0 : p.o0 = true) (h1 : p.o1 = true) : p.m0 = p.m1 ∧ (p.m0 = min want able ∨ p.m0 = 0) := by
  obtain ⟨r, hr, hm⟩ := h.o0 h0
  obtain ⟨r', hr', hm'⟩ := h.o1 h1
  rw [hr] at hr'
  injection hr' with hr'
  subst hr'
  exact ⟨by rw [hm, hm'], by rw [hm]; exact (h.fits r hr).2⟩
/-- How many segments may be on their ways. -/
theorem takev_len (x : C) (m : H) (u : Int) : (takev x m u).2.length ≤ 1 := by
  have hf : ∀ x : C, (finv x).2.length ≤ 1 := by intro x; unfold finv; repeat' (first | (simp; done) | split)
  have ht : ∀ (x : C) (m : H), (tailv x m).2.length ≤ 1 := by intro x m; unfold tailv; repeat' (first | exact hf _ | (simp; done) | split)
  unfold takev closedv listeningv askedv othersv
  repeat' (first | exact ht _ _ | (simp; done) | split)
def size (p : Pr) : Nat := p.q0.length + p.q1.length
theorem moved_size (p : Pr) (i : Nat) (c : C) (l : List H) : size (moved p i c l) = size p + l.length := by
  unfold moved size; split <;> simp <;> omega
theorem drop_size (p : Pr) (i : Nat) : size (dropv p i) ≤ size p := by
  unfold dropv size; split <;> simp <;> omega
theorem time_size (p : Pr) (i : Nat) : size (timev p i) ≤ size p + 1 := by
  unfold timev; rw [moved_size]
  have : (timeout (endv p i)).2.length ≤ 1 := by unfold timeout; repeat' (first | (simp; done) | split)
  omega
theorem come_size (p : Pr) (i : Nat) (u : Int) : size (comev p i u) ≤ size p + 1 := by
  unfold comev
  split
  · omega
  · rw [moved_size]
    have h1 := drop_size p i
    have h2 := takev_len (endv p i) (by assumption) u
    omega
theorem step_size (p : Pr) (b : Nat) : size (stepv p b) ≤ size p + 1 := by
  unfold stepv
  split
  · have := drop_size p (b % 2); omega
  split
  · exact time_size _ _
  · exact come_size _ _ _
theorem begun_size (want able i0 i1 : Int) : size (begunv want able i0 i1) ≤ 1 := by
  unfold begunv; rw [moved_size]
  have : (ask (newv want i0)).2.length ≤ 1 := by unfold ask; split <;> simp
  simp only [size, List.length_nil]
  omega
end Go.Proofs.Ytbklomnlhpbhnaa
