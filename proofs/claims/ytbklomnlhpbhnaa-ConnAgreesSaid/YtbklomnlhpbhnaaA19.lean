import Derived.Test.YtbklomnlhpbhnaaA18
namespace Go.Proofs.Ytbklomnlhpbhnaa
open Go.RowKit
set_option linter.unusedSimpArgs false
/-! Without losses: both come to be open, and both are closed at last. -/
def closev (p : Pr) (i : Nat) : Pr := moved p i (close (endv p i)).1 (close (endv p i)).2
def bothv (p : Pr) (i : Nat) : Pr := comev (comev p (1 - i) 0) i 0
theorem wrapu (n : Int) : IntKind.u64.wrap n = n % 18446744073709551616 := by simp [IntKind.wrap, IntKind.bits, IntKind.signed]
theorem newer_self (x : Int) : newer x x = false := by
  unfold newer newerD
  rw [Int.sub_self, wrapu 0, wrapu, decide_eq_false_iff_not]
  unfold wrap64
  omega
theorem u64_of {x : Int} (h : 0 ≤ x ∧ x < 4294967296) : IntKind.u64.wrap x = x := by rw [wrapu]; omega
theorem newer_eq {x y : Int} (hx : 0 ≤ x ∧ x < 4294967296) (hy : 0 ≤ y ∧ y < 4294967296) : newer x y = decide (0 < (x - y) % 4294967296 ∧ (x - y) % 4294967296 < 2147483648) := by
  unfold newer newerD
  rw [u64_of hx, u64_of hy, wrapu (x - y), wrapu]
  unfold wrap64
  rw [decide_eq_decide]
  generalize hd : x - y = d
  have h1 : (d % 18446744073709551616 * 4294967296) % 18446744073709551616 = (d % 4294967296) * 4294967296 := by omega
  rw [h1]
  omega
theorem newer_next {x : Int} (hx : 0 ≤ x ∧ x < 4294967296) : newer ((x + 1) % 4294967296) x = true := by
  rw [newer_eq (by omega) hx, decide_eq_true_eq]
  omega
theorem newer_last {x : Int} (hx : 0 ≤ x ∧ x < 4294967296) : newer x ((x + 1) % 4294967296) = false := by
  rw [newer_eq hx (by omega), decide_eq_false_iff_not]
  omega

/-- The numbers of one end: where they begin, and the next two. -/
structure Three (a0 a1 a2 : Int) : Prop where
  n10 : newer a1 a0 = true
  n21 : newer a2 a1 = true
  n12 : newer a1 a2 = false
  m1 : a1 % 4294967296 = a1
  m2 : a2 % 4294967296 = a2
  s1 : (a0 + 1) % 4294967296 = a1
  s2 : (a1 + 1) % 4294967296 = a2
  ne : a1 ≠ a2
theorem three {x : Int} (hx : 0 ≤ x ∧ x < 4294967296) : Three x ((x + 1) % 4294967296) (((x + 1) % 4294967296 + 1) % 4294967296) :=
  ⟨newer_next hx, newer_next (by omega), newer_last (by omega), by omega, by omega, rfl, rfl, by omega⟩
theorem reply_facts {want able u : Int} (hw : 0 ≤ want ∧ want ≤ 2) (ha : 0 ≤ able ∧ able ≤ 2) (hu : shake u ≠ 0) :
    (settle want (replyv (askv want) u able).1).1 = (replyv (askv want) u able).2 ∧ (replyv (askv want) u able).2 = min want able ∧ ((replyv (askv want) u able).2 = 2 → (settle want (replyv (askv want) u able).1).2 = u) := by
  have hu' : u = 0 ∨ u = 1 ∨ u = 2 ∨ u = 3 := by unfold shake at hu; omega
  have cw : want = 0 ∨ want = 1 ∨ want = 2 := by omega
  have ca : able = 0 ∨ able = 1 ∨ able = 2 := by omega
  clear hw ha hu
  rcases cw with rfl | rfl | rfl <;> rcases ca with rfl | rfl | rfl <;> rcases hu' with rfl | rfl | rfl | rfl <;> decide
theorem start_shake {u : Int} (hu : shake u ≠ 0) : startv (shake u) = 6 ↔ u = 3 := by
  have hu' : u = 0 ∨ u = 1 ∨ u = 2 ∨ u = 3 := by unfold shake at hu; omega
  clear hu
  rcases hu' with rfl | rfl | rfl | rfl <;> decide
theorem opens {want able i0 i1 a1 a2 b1 b2 : Int} (hw : 0 ≤ want ∧ want ≤ 2) (ha : 0 ≤ able ∧ able ≤ 2) (A : Three i0 a1 a2) (B : Three i1 b1 b2) {u0 u1 u2 : Int} (h0 : shake u0 ≠ 0) (h1 : shake u1 ≠ 0) (_h2 : shake u2 ≠ 0) :
    ∃ md cd sr rp m0 m1, comev (comev (comev (begunv want able i0 i1) 1 u0) 0 u1) 1 u2 = ⟨⟨4, want, i0, a1, a1, b1, md, cd, 0, sr, 0⟩, ⟨4, able, i1, b1, b1, a1, md, u0, rp, sr, 0⟩, [], [], true, true, m0, m1⟩ ∧ md = min want able ∧ (md = 2 → cd = u0 ∧ (sr = 6 ↔ u1 = 3)) := by
  have hn : newv want i0 = ⟨0, want, i0, 0, 0, 0, 0, 0, 0, 5, 0⟩ := by unfold newv; rw [clampw_of hw]
  have hl : listenv (newv able i1) = ⟨1, able, i1, 0, 0, 0, 0, 0, 0, 5, 0⟩ := by unfold newv; rw [clampw_of ha]; rfl
  have hb : begunv want able i0 i1 = ⟨⟨2, want, i0, i0, a1, 0, 0, 0, 0, 5, 0⟩, ⟨1, able, i1, 0, 0, 0, 0, 0, 0, 5, 0⟩, [], [hd i0 0 2 (askv want)], false, false, 0, 0⟩ := by
    simp [begunv, hn, hl, ask, moved, A.s1]
  rw [hb]
  have e1 : comev ⟨⟨2, want, i0, i0, a1, 0, 0, 0, 0, 5, 0⟩, ⟨1, able, i1, 0, 0, 0, 0, 0, 0, 5, 0⟩, [], [hd i0 0 2 (askv want)], false, false, 0, 0⟩ 1 u0 =
      ⟨⟨2, want, i0, i0, a1, 0, 0, 0, 0, 5, 0⟩, ⟨3, able, i1, i1, b1, a1, (replyv (askv want) u0 able).2, u0, (replyv (askv want) u0 able).1, 5, 0⟩, [hd i1 a1 18 (replyv (askv want) u0 able).1], [], false, false, 0, 0⟩ := by
    simp [comev, wayv, dropv, moved, endv, takev, h0, listeningv, A.s1, B.s1]
  rw [e1]
  obtain ⟨f1, f2, f3⟩ := reply_facts hw ha h0
  generalize replyv (askv want) u0 able = r at f1 f2 f3 ⊢
  obtain ⟨r1, r2⟩ := r
  simp only at f1 f2 f3 ⊢
  by_cases h22 : r2 = 2
  · have g1 : (settle want r1).1 = 2 := f1.trans h22
    have e2 : comev ⟨⟨2, want, i0, i0, a1, 0, 0, 0, 0, 5, 0⟩, ⟨3, able, i1, i1, b1, a1, r2, u0, r1, 5, 0⟩, [hd i1 a1 18 r1], [], false, false, 0, 0⟩ 0 u1 =
        ⟨⟨4, want, i0, a1, a1, b1, 2, (settle want r1).2, 0, startv (shake u1), 0⟩, ⟨3, able, i1, i1, b1, a1, r2, u0, r1, 5, 0⟩, [], [hd a1 b1 16 (shake u1)], true, false, 2, 0⟩ := by
      simp [comev, wayv, dropv, moved, endv, takev, h1, askedv, g1, B.s1]
    rw [e2]
    have e3 : comev ⟨⟨4, want, i0, a1, a1, b1, 2, (settle want r1).2, 0, startv (shake u1), 0⟩, ⟨3, able, i1, i1, b1, a1, r2, u0, r1, 5, 0⟩, [], [hd a1 b1 16 (shake u1)], true, false, 2, 0⟩ 1 u2 =
        ⟨⟨4, want, i0, a1, a1, b1, 2, (settle want r1).2, 0, startv (shake u1), 0⟩, ⟨4, able, i1, b1, b1, a1, 2, u0, r1, startv (shake u1), 0⟩, [], [], true, true, 2, 2⟩ := by
      simp [comev, wayv, dropv, moved, endv, takev, othersv, tailv, openedv, newer_self, B.n10, h22]
    rw [e3]
    exact ⟨_, _, _, _, _, _, rfl, by rw [← f2, h22], fun _ => ⟨f3 h22, start_shake h1⟩⟩
  · have g1 : ¬ (settle want r1).1 = 2 := fun h => h22 (f1.symm.trans h)
    have e2 : comev ⟨⟨2, want, i0, i0, a1, 0, 0, 0, 0, 5, 0⟩, ⟨3, able, i1, i1, b1, a1, r2, u0, r1, 5, 0⟩, [hd i1 a1 18 r1], [], false, false, 0, 0⟩ 0 u1 =
        ⟨⟨4, want, i0, a1, a1, b1, r2, (settle want r1).2, 0, 5, 0⟩, ⟨3, able, i1, i1, b1, a1, r2, u0, r1, 5, 0⟩, [], [hd a1 b1 16 0], true, false, r2, 0⟩ := by
      simp [comev, wayv, dropv, moved, endv, takev, h1, askedv, f1, h22, B.s1]
    rw [e2]
    have e3 : comev ⟨⟨4, want, i0, a1, a1, b1, r2, (settle want r1).2, 0, 5, 0⟩, ⟨3, able, i1, i1, b1, a1, r2, u0, r1, 5, 0⟩, [], [hd a1 b1 16 0], true, false, r2, 0⟩ 1 u2 =
        ⟨⟨4, want, i0, a1, a1, b1, r2, (settle want r1).2, 0, 5, 0⟩, ⟨4, able, i1, b1, b1, a1, r2, u0, r1, 5, 0⟩, [], [], true, true, r2, r2⟩ := by
      simp [comev, wayv, dropv, moved, endv, takev, othersv, tailv, openedv, newer_self, B.n10, h22]
    rw [e3]
    exact ⟨_, _, _, _, _, _, rfl, f2, fun h => absurd h h22⟩
/-! Both close: one behind the other, or at once: the steps, by program (gen18.py). -/
theorem closes_0_1 {w0 w1 i0 i1 a1 a2 b1 b2 md cd0 cd1 sr0 sr1 rp0 rp1 m0 m1 : Int} (A : Three i0 a1 a2) (B : Three i1 b1 b2) :
    comev (comev (comev (comev (comev (comev (closev (comev (comev (comev (comev (comev (comev (closev (⟨⟨4, w0, i0, a1, a1, b1, md, cd0, rp0, sr0, 0⟩, ⟨4, w1, i1, b1, b1, a1, md, cd1, rp1, sr1, 0⟩, [], [], true, true, m0, m1⟩ : Pr) 0) 1 0) 0 0) 1 0) 0 0) 1 0) 0 0) 1) 0 0) 1 0) 0 0) 1 0) 0 0) 1 0 = (⟨⟨8, w0, i0, a2, a2, b2, md, cd0, rp0, sr0, 0⟩, ⟨0, w1, i1, b2, b2, a2, md, cd1, rp1, sr1, 0⟩, [], [], true, true, m0, m1⟩ : Pr) := by
  rw [show closev (⟨⟨4, w0, i0, a1, a1, b1, md, cd0, rp0, sr0, 0⟩, ⟨4, w1, i1, b1, b1, a1, md, cd1, rp1, sr1, 0⟩, [], [], true, true, m0, m1⟩ : Pr) 0 = (⟨⟨5, w0, i0, a1, a2, b1, md, cd0, rp0, sr0, 0⟩, ⟨4, w1, i1, b1, b1, a1, md, cd1, rp1, sr1, 0⟩, [], [hd a1 b1 17 0], true, true, m0, m1⟩ : Pr) by simp [closev, close, comev, wayv, dropv, moved, endv, takev, othersv, tailv, finv, heardv, newer_self, A.n10, A.n21, A.n12, A.m1, A.m2, A.s2, A.ne, B.n10, B.n21, B.n12, B.m1, B.m2, B.s2, B.ne]]
  rw [show comev (⟨⟨5, w0, i0, a1, a2, b1, md, cd0, rp0, sr0, 0⟩, ⟨4, w1, i1, b1, b1, a1, md, cd1, rp1, sr1, 0⟩, [], [hd a1 b1 17 0], true, true, m0, m1⟩ : Pr) 1 0 = (⟨⟨5, w0, i0, a1, a2, b1, md, cd0, rp0, sr0, 0⟩, ⟨9, w1, i1, b1, b1, a2, md, cd1, rp1, sr1, 0⟩, [hd b1 a2 16 0], [], true, true, m0, m1⟩ : Pr) by simp [closev, close, comev, wayv, dropv, moved, endv, takev, othersv, tailv, finv, heardv, newer_self, A.n10, A.n21, A.n12, A.m1, A.m2, A.s2, A.ne, B.n10, B.n21, B.n12, B.m1, B.m2, B.s2, B.ne]]
  rw [show comev (⟨⟨5, w0, i0, a1, a2, b1, md, cd0, rp0, sr0, 0⟩, ⟨9, w1, i1, b1, b1, a2, md, cd1, rp1, sr1, 0⟩, [hd b1 a2 16 0], [], true, true, m0, m1⟩ : Pr) 0 0 = (⟨⟨6, w0, i0, a2, a2, b1, md, cd0, rp0, sr0, 0⟩, ⟨9, w1, i1, b1, b1, a2, md, cd1, rp1, sr1, 0⟩, [], [], true, true, m0, m1⟩ : Pr) by simp [closev, close, comev, wayv, dropv, moved, endv, takev, othersv, tailv, finv, heardv, newer_self, A.n10, A.n21, A.n12, A.m1, A.m2, A.s2, A.ne, B.n10, B.n21, B.n12, B.m1, B.m2, B.s2, B.ne]]
  rw [show comev (⟨⟨6, w0, i0, a2, a2, b1, md, cd0, rp0, sr0, 0⟩, ⟨9, w1, i1, b1, b1, a2, md, cd1, rp1, sr1, 0⟩, [], [], true, true, m0, m1⟩ : Pr) 1 0 = (⟨⟨6, w0, i0, a2, a2, b1, md, cd0, rp0, sr0, 0⟩, ⟨9, w1, i1, b1, b1, a2, md, cd1, rp1, sr1, 0⟩, [], [], true, true, m0, m1⟩ : Pr) from rfl]
  rw [show comev (⟨⟨6, w0, i0, a2, a2, b1, md, cd0, rp0, sr0, 0⟩, ⟨9, w1, i1, b1, b1, a2, md, cd1, rp1, sr1, 0⟩, [], [], true, true, m0, m1⟩ : Pr) 0 0 = (⟨⟨6, w0, i0, a2, a2, b1, md, cd0, rp0, sr0, 0⟩, ⟨9, w1, i1, b1, b1, a2, md, cd1, rp1, sr1, 0⟩, [], [], true, true, m0, m1⟩ : Pr) from rfl]
  rw [show comev (⟨⟨6, w0, i0, a2, a2, b1, md, cd0, rp0, sr0, 0⟩, ⟨9, w1, i1, b1, b1, a2, md, cd1, rp1, sr1, 0⟩, [], [], true, true, m0, m1⟩ : Pr) 1 0 = (⟨⟨6, w0, i0, a2, a2, b1, md, cd0, rp0, sr0, 0⟩, ⟨9, w1, i1, b1, b1, a2, md, cd1, rp1, sr1, 0⟩, [], [], true, true, m0, m1⟩ : Pr) from rfl]
  rw [show comev (⟨⟨6, w0, i0, a2, a2, b1, md, cd0, rp0, sr0, 0⟩, ⟨9, w1, i1, b1, b1, a2, md, cd1, rp1, sr1, 0⟩, [], [], true, true, m0, m1⟩ : Pr) 0 0 = (⟨⟨6, w0, i0, a2, a2, b1, md, cd0, rp0, sr0, 0⟩, ⟨9, w1, i1, b1, b1, a2, md, cd1, rp1, sr1, 0⟩, [], [], true, true, m0, m1⟩ : Pr) from rfl]
  rw [show closev (⟨⟨6, w0, i0, a2, a2, b1, md, cd0, rp0, sr0, 0⟩, ⟨9, w1, i1, b1, b1, a2, md, cd1, rp1, sr1, 0⟩, [], [], true, true, m0, m1⟩ : Pr) 1 = (⟨⟨6, w0, i0, a2, a2, b1, md, cd0, rp0, sr0, 0⟩, ⟨10, w1, i1, b1, b2, a2, md, cd1, rp1, sr1, 0⟩, [hd b1 a2 17 0], [], true, true, m0, m1⟩ : Pr) by simp [closev, close, comev, wayv, dropv, moved, endv, takev, othersv, tailv, finv, heardv, newer_self, A.n10, A.n21, A.n12, A.m1, A.m2, A.s2, A.ne, B.n10, B.n21, B.n12, B.m1, B.m2, B.s2, B.ne]]
  rw [show comev (⟨⟨6, w0, i0, a2, a2, b1, md, cd0, rp0, sr0, 0⟩, ⟨10, w1, i1, b1, b2, a2, md, cd1, rp1, sr1, 0⟩, [hd b1 a2 17 0], [], true, true, m0, m1⟩ : Pr) 0 0 = (⟨⟨8, w0, i0, a2, a2, b2, md, cd0, rp0, sr0, 0⟩, ⟨10, w1, i1, b1, b2, a2, md, cd1, rp1, sr1, 0⟩, [], [hd a2 b2 16 0], true, true, m0, m1⟩ : Pr) by simp [closev, close, comev, wayv, dropv, moved, endv, takev, othersv, tailv, finv, heardv, newer_self, A.n10, A.n21, A.n12, A.m1, A.m2, A.s2, A.ne, B.n10, B.n21, B.n12, B.m1, B.m2, B.s2, B.ne]]
  rw [show comev (⟨⟨8, w0, i0, a2, a2, b2, md, cd0, rp0, sr0, 0⟩, ⟨10, w1, i1, b1, b2, a2, md, cd1, rp1, sr1, 0⟩, [], [hd a2 b2 16 0], true, true, m0, m1⟩ : Pr) 1 0 = (⟨⟨8, w0, i0, a2, a2, b2, md, cd0, rp0, sr0, 0⟩, ⟨0, w1, i1, b2, b2, a2, md, cd1, rp1, sr1, 0⟩, [], [], true, true, m0, m1⟩ : Pr) by simp [closev, close, comev, wayv, dropv, moved, endv, takev, othersv, tailv, finv, heardv, newer_self, A.n10, A.n21, A.n12, A.m1, A.m2, A.s2, A.ne, B.n10, B.n21, B.n12, B.m1, B.m2, B.s2, B.ne]]
  rw [show comev (⟨⟨8, w0, i0, a2, a2, b2, md, cd0, rp0, sr0, 0⟩, ⟨0, w1, i1, b2, b2, a2, md, cd1, rp1, sr1, 0⟩, [], [], true, true, m0, m1⟩ : Pr) 0 0 = (⟨⟨8, w0, i0, a2, a2, b2, md, cd0, rp0, sr0, 0⟩, ⟨0, w1, i1, b2, b2, a2, md, cd1, rp1, sr1, 0⟩, [], [], true, true, m0, m1⟩ : Pr) from rfl]
  rw [show comev (⟨⟨8, w0, i0, a2, a2, b2, md, cd0, rp0, sr0, 0⟩, ⟨0, w1, i1, b2, b2, a2, md, cd1, rp1, sr1, 0⟩, [], [], true, true, m0, m1⟩ : Pr) 1 0 = (⟨⟨8, w0, i0, a2, a2, b2, md, cd0, rp0, sr0, 0⟩, ⟨0, w1, i1, b2, b2, a2, md, cd1, rp1, sr1, 0⟩, [], [], true, true, m0, m1⟩ : Pr) from rfl]
  rw [show comev (⟨⟨8, w0, i0, a2, a2, b2, md, cd0, rp0, sr0, 0⟩, ⟨0, w1, i1, b2, b2, a2, md, cd1, rp1, sr1, 0⟩, [], [], true, true, m0, m1⟩ : Pr) 0 0 = (⟨⟨8, w0, i0, a2, a2, b2, md, cd0, rp0, sr0, 0⟩, ⟨0, w1, i1, b2, b2, a2, md, cd1, rp1, sr1, 0⟩, [], [], true, true, m0, m1⟩ : Pr) from rfl]
  rw [show comev (⟨⟨8, w0, i0, a2, a2, b2, md, cd0, rp0, sr0, 0⟩, ⟨0, w1, i1, b2, b2, a2, md, cd1, rp1, sr1, 0⟩, [], [], true, true, m0, m1⟩ : Pr) 1 0 = (⟨⟨8, w0, i0, a2, a2, b2, md, cd0, rp0, sr0, 0⟩, ⟨0, w1, i1, b2, b2, a2, md, cd1, rp1, sr1, 0⟩, [], [], true, true, m0, m1⟩ : Pr) from rfl]

theorem closes_0_0 {w0 w1 i0 i1 a1 a2 b1 b2 md cd0 cd1 sr0 sr1 rp0 rp1 m0 m1 : Int} (A : Three i0 a1 a2) (B : Three i1 b1 b2) :
    comev (comev (comev (comev (comev (comev (closev (closev (⟨⟨4, w0, i0, a1, a1, b1, md, cd0, rp0, sr0, 0⟩, ⟨4, w1, i1, b1, b1, a1, md, cd1, rp1, sr1, 0⟩, [], [], true, true, m0, m1⟩ : Pr) 0) 1) 0 0) 1 0) 0 0) 1 0) 0 0) 1 0 = (⟨⟨8, w0, i0, a2, a2, b2, md, cd0, rp0, sr0, 0⟩, ⟨8, w1, i1, b2, b2, a2, md, cd1, rp1, sr1, 0⟩, [], [], true, true, m0, m1⟩ : Pr) := by
  rw [show closev (⟨⟨4, w0, i0, a1, a1, b1, md, cd0, rp0, sr0, 0⟩, ⟨4, w1, i1, b1, b1, a1, md, cd1, rp1, sr1, 0⟩, [], [], true, true, m0, m1⟩ : Pr) 0 = (⟨⟨5, w0, i0, a1, a2, b1, md, cd0, rp0, sr0, 0⟩, ⟨4, w1, i1, b1, b1, a1, md, cd1, rp1, sr1, 0⟩, [], [hd a1 b1 17 0], true, true, m0, m1⟩ : Pr) by simp [closev, close, comev, wayv, dropv, moved, endv, takev, othersv, tailv, finv, heardv, newer_self, A.n10, A.n21, A.n12, A.m1, A.m2, A.s2, A.ne, B.n10, B.n21, B.n12, B.m1, B.m2, B.s2, B.ne]]
  rw [show closev (⟨⟨5, w0, i0, a1, a2, b1, md, cd0, rp0, sr0, 0⟩, ⟨4, w1, i1, b1, b1, a1, md, cd1, rp1, sr1, 0⟩, [], [hd a1 b1 17 0], true, true, m0, m1⟩ : Pr) 1 = (⟨⟨5, w0, i0, a1, a2, b1, md, cd0, rp0, sr0, 0⟩, ⟨5, w1, i1, b1, b2, a1, md, cd1, rp1, sr1, 0⟩, [hd b1 a1 17 0], [hd a1 b1 17 0], true, true, m0, m1⟩ : Pr) by simp [closev, close, comev, wayv, dropv, moved, endv, takev, othersv, tailv, finv, heardv, newer_self, A.n10, A.n21, A.n12, A.m1, A.m2, A.s2, A.ne, B.n10, B.n21, B.n12, B.m1, B.m2, B.s2, B.ne]]
  rw [show comev (⟨⟨5, w0, i0, a1, a2, b1, md, cd0, rp0, sr0, 0⟩, ⟨5, w1, i1, b1, b2, a1, md, cd1, rp1, sr1, 0⟩, [hd b1 a1 17 0], [hd a1 b1 17 0], true, true, m0, m1⟩ : Pr) 0 0 = (⟨⟨7, w0, i0, a1, a2, b2, md, cd0, rp0, sr0, 0⟩, ⟨5, w1, i1, b1, b2, a1, md, cd1, rp1, sr1, 0⟩, [], [hd a1 b1 17 0, hd a2 b2 16 0], true, true, m0, m1⟩ : Pr) by simp [closev, close, comev, wayv, dropv, moved, endv, takev, othersv, tailv, finv, heardv, newer_self, A.n10, A.n21, A.n12, A.m1, A.m2, A.s2, A.ne, B.n10, B.n21, B.n12, B.m1, B.m2, B.s2, B.ne]]
  rw [show comev (⟨⟨7, w0, i0, a1, a2, b2, md, cd0, rp0, sr0, 0⟩, ⟨5, w1, i1, b1, b2, a1, md, cd1, rp1, sr1, 0⟩, [], [hd a1 b1 17 0, hd a2 b2 16 0], true, true, m0, m1⟩ : Pr) 1 0 = (⟨⟨7, w0, i0, a1, a2, b2, md, cd0, rp0, sr0, 0⟩, ⟨7, w1, i1, b1, b2, a2, md, cd1, rp1, sr1, 0⟩, [hd b2 a2 16 0], [hd a2 b2 16 0], true, true, m0, m1⟩ : Pr) by simp [closev, close, comev, wayv, dropv, moved, endv, takev, othersv, tailv, finv, heardv, newer_self, A.n10, A.n21, A.n12, A.m1, A.m2, A.s2, A.ne, B.n10, B.n21, B.n12, B.m1, B.m2, B.s2, B.ne]]
  rw [show comev (⟨⟨7, w0, i0, a1, a2, b2, md, cd0, rp0, sr0, 0⟩, ⟨7, w1, i1, b1, b2, a2, md, cd1, rp1, sr1, 0⟩, [hd b2 a2 16 0], [hd a2 b2 16 0], true, true, m0, m1⟩ : Pr) 0 0 = (⟨⟨8, w0, i0, a2, a2, b2, md, cd0, rp0, sr0, 0⟩, ⟨7, w1, i1, b1, b2, a2, md, cd1, rp1, sr1, 0⟩, [], [hd a2 b2 16 0], true, true, m0, m1⟩ : Pr) by simp [closev, close, comev, wayv, dropv, moved, endv, takev, othersv, tailv, finv, heardv, newer_self, A.n10, A.n21, A.n12, A.m1, A.m2, A.s2, A.ne, B.n10, B.n21, B.n12, B.m1, B.m2, B.s2, B.ne]]
  rw [show comev (⟨⟨8, w0, i0, a2, a2, b2, md, cd0, rp0, sr0, 0⟩, ⟨7, w1, i1, b1, b2, a2, md, cd1, rp1, sr1, 0⟩, [], [hd a2 b2 16 0], true, true, m0, m1⟩ : Pr) 1 0 = (⟨⟨8, w0, i0, a2, a2, b2, md, cd0, rp0, sr0, 0⟩, ⟨8, w1, i1, b2, b2, a2, md, cd1, rp1, sr1, 0⟩, [], [], true, true, m0, m1⟩ : Pr) by simp [closev, close, comev, wayv, dropv, moved, endv, takev, othersv, tailv, finv, heardv, newer_self, A.n10, A.n21, A.n12, A.m1, A.m2, A.s2, A.ne, B.n10, B.n21, B.n12, B.m1, B.m2, B.s2, B.ne]]
  rw [show comev (⟨⟨8, w0, i0, a2, a2, b2, md, cd0, rp0, sr0, 0⟩, ⟨8, w1, i1, b2, b2, a2, md, cd1, rp1, sr1, 0⟩, [], [], true, true, m0, m1⟩ : Pr) 0 0 = (⟨⟨8, w0, i0, a2, a2, b2, md, cd0, rp0, sr0, 0⟩, ⟨8, w1, i1, b2, b2, a2, md, cd1, rp1, sr1, 0⟩, [], [], true, true, m0, m1⟩ : Pr) from rfl]
  rw [show comev (⟨⟨8, w0, i0, a2, a2, b2, md, cd0, rp0, sr0, 0⟩, ⟨8, w1, i1, b2, b2, a2, md, cd1, rp1, sr1, 0⟩, [], [], true, true, m0, m1⟩ : Pr) 1 0 = (⟨⟨8, w0, i0, a2, a2, b2, md, cd0, rp0, sr0, 0⟩, ⟨8, w1, i1, b2, b2, a2, md, cd1, rp1, sr1, 0⟩, [], [], true, true, m0, m1⟩ : Pr) from rfl]

theorem closes_1_1 {w0 w1 i0 i1 a1 a2 b1 b2 md cd0 cd1 sr0 sr1 rp0 rp1 m0 m1 : Int} (A : Three i0 a1 a2) (B : Three i1 b1 b2) :
    comev (comev (comev (comev (comev (comev (closev (comev (comev (comev (comev (comev (comev (closev (⟨⟨4, w0, i0, a1, a1, b1, md, cd0, rp0, sr0, 0⟩, ⟨4, w1, i1, b1, b1, a1, md, cd1, rp1, sr1, 0⟩, [], [], true, true, m0, m1⟩ : Pr) 1) 0 0) 1 0) 0 0) 1 0) 0 0) 1 0) 0) 1 0) 0 0) 1 0) 0 0) 1 0) 0 0 = (⟨⟨0, w0, i0, a2, a2, b2, md, cd0, rp0, sr0, 0⟩, ⟨8, w1, i1, b2, b2, a2, md, cd1, rp1, sr1, 0⟩, [], [], true, true, m0, m1⟩ : Pr) := by
  rw [show closev (⟨⟨4, w0, i0, a1, a1, b1, md, cd0, rp0, sr0, 0⟩, ⟨4, w1, i1, b1, b1, a1, md, cd1, rp1, sr1, 0⟩, [], [], true, true, m0, m1⟩ : Pr) 1 = (⟨⟨4, w0, i0, a1, a1, b1, md, cd0, rp0, sr0, 0⟩, ⟨5, w1, i1, b1, b2, a1, md, cd1, rp1, sr1, 0⟩, [hd b1 a1 17 0], [], true, true, m0, m1⟩ : Pr) by simp [closev, close, comev, wayv, dropv, moved, endv, takev, othersv, tailv, finv, heardv, newer_self, A.n10, A.n21, A.n12, A.m1, A.m2, A.s2, A.ne, B.n10, B.n21, B.n12, B.m1, B.m2, B.s2, B.ne]]
  rw [show comev (⟨⟨4, w0, i0, a1, a1, b1, md, cd0, rp0, sr0, 0⟩, ⟨5, w1, i1, b1, b2, a1, md, cd1, rp1, sr1, 0⟩, [hd b1 a1 17 0], [], true, true, m0, m1⟩ : Pr) 0 0 = (⟨⟨9, w0, i0, a1, a1, b2, md, cd0, rp0, sr0, 0⟩, ⟨5, w1, i1, b1, b2, a1, md, cd1, rp1, sr1, 0⟩, [], [hd a1 b2 16 0], true, true, m0, m1⟩ : Pr) by simp [closev, close, comev, wayv, dropv, moved, endv, takev, othersv, tailv, finv, heardv, newer_self, A.n10, A.n21, A.n12, A.m1, A.m2, A.s2, A.ne, B.n10, B.n21, B.n12, B.m1, B.m2, B.s2, B.ne]]
  rw [show comev (⟨⟨9, w0, i0, a1, a1, b2, md, cd0, rp0, sr0, 0⟩, ⟨5, w1, i1, b1, b2, a1, md, cd1, rp1, sr1, 0⟩, [], [hd a1 b2 16 0], true, true, m0, m1⟩ : Pr) 1 0 = (⟨⟨9, w0, i0, a1, a1, b2, md, cd0, rp0, sr0, 0⟩, ⟨6, w1, i1, b2, b2, a1, md, cd1, rp1, sr1, 0⟩, [], [], true, true, m0, m1⟩ : Pr) by simp [closev, close, comev, wayv, dropv, moved, endv, takev, othersv, tailv, finv, heardv, newer_self, A.n10, A.n21, A.n12, A.m1, A.m2, A.s2, A.ne, B.n10, B.n21, B.n12, B.m1, B.m2, B.s2, B.ne]]
  rw [show comev (⟨⟨9, w0, i0, a1, a1, b2, md, cd0, rp0, sr0, 0⟩, ⟨6, w1, i1, b2, b2, a1, md, cd1, rp1, sr1, 0⟩, [], [], true, true, m0, m1⟩ : Pr) 0 0 = (⟨⟨9, w0, i0, a1, a1, b2, md, cd0, rp0, sr0, 0⟩, ⟨6, w1, i1, b2, b2, a1, md, cd1, rp1, sr1, 0⟩, [], [], true, true, m0, m1⟩ : Pr) from rfl]
  rw [show comev (⟨⟨9, w0, i0, a1, a1, b2, md, cd0, rp0, sr0, 0⟩, ⟨6, w1, i1, b2, b2, a1, md, cd1, rp1, sr1, 0⟩, [], [], true, true, m0, m1⟩ : Pr) 1 0 = (⟨⟨9, w0, i0, a1, a1, b2, md, cd0, rp0, sr0, 0⟩, ⟨6, w1, i1, b2, b2, a1, md, cd1, rp1, sr1, 0⟩, [], [], true, true, m0, m1⟩ : Pr) from rfl]
  rw [show comev (⟨⟨9, w0, i0, a1, a1, b2, md, cd0, rp0, sr0, 0⟩, ⟨6, w1, i1, b2, b2, a1, md, cd1, rp1, sr1, 0⟩, [], [], true, true, m0, m1⟩ : Pr) 0 0 = (⟨⟨9, w0, i0, a1, a1, b2, md, cd0, rp0, sr0, 0⟩, ⟨6, w1, i1, b2, b2, a1, md, cd1, rp1, sr1, 0⟩, [], [], true, true, m0, m1⟩ : Pr) from rfl]
  rw [show comev (⟨⟨9, w0, i0, a1, a1, b2, md, cd0, rp0, sr0, 0⟩, ⟨6, w1, i1, b2, b2, a1, md, cd1, rp1, sr1, 0⟩, [], [], true, true, m0, m1⟩ : Pr) 1 0 = (⟨⟨9, w0, i0, a1, a1, b2, md, cd0, rp0, sr0, 0⟩, ⟨6, w1, i1, b2, b2, a1, md, cd1, rp1, sr1, 0⟩, [], [], true, true, m0, m1⟩ : Pr) from rfl]
  rw [show closev (⟨⟨9, w0, i0, a1, a1, b2, md, cd0, rp0, sr0, 0⟩, ⟨6, w1, i1, b2, b2, a1, md, cd1, rp1, sr1, 0⟩, [], [], true, true, m0, m1⟩ : Pr) 0 = (⟨⟨10, w0, i0, a1, a2, b2, md, cd0, rp0, sr0, 0⟩, ⟨6, w1, i1, b2, b2, a1, md, cd1, rp1, sr1, 0⟩, [], [hd a1 b2 17 0], true, true, m0, m1⟩ : Pr) by simp [closev, close, comev, wayv, dropv, moved, endv, takev, othersv, tailv, finv, heardv, newer_self, A.n10, A.n21, A.n12, A.m1, A.m2, A.s2, A.ne, B.n10, B.n21, B.n12, B.m1, B.m2, B.s2, B.ne]]
  rw [show comev (⟨⟨10, w0, i0, a1, a2, b2, md, cd0, rp0, sr0, 0⟩, ⟨6, w1, i1, b2, b2, a1, md, cd1, rp1, sr1, 0⟩, [], [hd a1 b2 17 0], true, true, m0, m1⟩ : Pr) 1 0 = (⟨⟨10, w0, i0, a1, a2, b2, md, cd0, rp0, sr0, 0⟩, ⟨8, w1, i1, b2, b2, a2, md, cd1, rp1, sr1, 0⟩, [hd b2 a2 16 0], [], true, true, m0, m1⟩ : Pr) by simp [closev, close, comev, wayv, dropv, moved, endv, takev, othersv, tailv, finv, heardv, newer_self, A.n10, A.n21, A.n12, A.m1, A.m2, A.s2, A.ne, B.n10, B.n21, B.n12, B.m1, B.m2, B.s2, B.ne]]
  rw [show comev (⟨⟨10, w0, i0, a1, a2, b2, md, cd0, rp0, sr0, 0⟩, ⟨8, w1, i1, b2, b2, a2, md, cd1, rp1, sr1, 0⟩, [hd b2 a2 16 0], [], true, true, m0, m1⟩ : Pr) 0 0 = (⟨⟨0, w0, i0, a2, a2, b2, md, cd0, rp0, sr0, 0⟩, ⟨8, w1, i1, b2, b2, a2, md, cd1, rp1, sr1, 0⟩, [], [], true, true, m0, m1⟩ : Pr) by simp [closev, close, comev, wayv, dropv, moved, endv, takev, othersv, tailv, finv, heardv, newer_self, A.n10, A.n21, A.n12, A.m1, A.m2, A.s2, A.ne, B.n10, B.n21, B.n12, B.m1, B.m2, B.s2, B.ne]]
  rw [show comev (⟨⟨0, w0, i0, a2, a2, b2, md, cd0, rp0, sr0, 0⟩, ⟨8, w1, i1, b2, b2, a2, md, cd1, rp1, sr1, 0⟩, [], [], true, true, m0, m1⟩ : Pr) 1 0 = (⟨⟨0, w0, i0, a2, a2, b2, md, cd0, rp0, sr0, 0⟩, ⟨8, w1, i1, b2, b2, a2, md, cd1, rp1, sr1, 0⟩, [], [], true, true, m0, m1⟩ : Pr) from rfl]
  rw [show comev (⟨⟨0, w0, i0, a2, a2, b2, md, cd0, rp0, sr0, 0⟩, ⟨8, w1, i1, b2, b2, a2, md, cd1, rp1, sr1, 0⟩, [], [], true, true, m0, m1⟩ : Pr) 0 0 = (⟨⟨0, w0, i0, a2, a2, b2, md, cd0, rp0, sr0, 0⟩, ⟨8, w1, i1, b2, b2, a2, md, cd1, rp1, sr1, 0⟩, [], [], true, true, m0, m1⟩ : Pr) from rfl]
  rw [show comev (⟨⟨0, w0, i0, a2, a2, b2, md, cd0, rp0, sr0, 0⟩, ⟨8, w1, i1, b2, b2, a2, md, cd1, rp1, sr1, 0⟩, [], [], true, true, m0, m1⟩ : Pr) 1 0 = (⟨⟨0, w0, i0, a2, a2, b2, md, cd0, rp0, sr0, 0⟩, ⟨8, w1, i1, b2, b2, a2, md, cd1, rp1, sr1, 0⟩, [], [], true, true, m0, m1⟩ : Pr) from rfl]
  rw [show comev (⟨⟨0, w0, i0, a2, a2, b2, md, cd0, rp0, sr0, 0⟩, ⟨8, w1, i1, b2, b2, a2, md, cd1, rp1, sr1, 0⟩, [], [], true, true, m0, m1⟩ : Pr) 0 0 = (⟨⟨0, w0, i0, a2, a2, b2, md, cd0, rp0, sr0, 0⟩, ⟨8, w1, i1, b2, b2, a2, md, cd1, rp1, sr1, 0⟩, [], [], true, true, m0, m1⟩ : Pr) from rfl]

theorem closes_1_0 {w0 w1 i0 i1 a1 a2 b1 b2 md cd0 cd1 sr0 sr1 rp0 rp1 m0 m1 : Int} (A : Three i0 a1 a2) (B : Three i1 b1 b2) :
    comev (comev (comev (comev (comev (comev (closev (closev (⟨⟨4, w0, i0, a1, a1, b1, md, cd0, rp0, sr0, 0⟩, ⟨4, w1, i1, b1, b1, a1, md, cd1, rp1, sr1, 0⟩, [], [], true, true, m0, m1⟩ : Pr) 1) 0) 1 0) 0 0) 1 0) 0 0) 1 0) 0 0 = (⟨⟨8, w0, i0, a2, a2, b2, md, cd0, rp0, sr0, 0⟩, ⟨8, w1, i1, b2, b2, a2, md, cd1, rp1, sr1, 0⟩, [], [], true, true, m0, m1⟩ : Pr) := by
  rw [show closev (⟨⟨4, w0, i0, a1, a1, b1, md, cd0, rp0, sr0, 0⟩, ⟨4, w1, i1, b1, b1, a1, md, cd1, rp1, sr1, 0⟩, [], [], true, true, m0, m1⟩ : Pr) 1 = (⟨⟨4, w0, i0, a1, a1, b1, md, cd0, rp0, sr0, 0⟩, ⟨5, w1, i1, b1, b2, a1, md, cd1, rp1, sr1, 0⟩, [hd b1 a1 17 0], [], true, true, m0, m1⟩ : Pr) by simp [closev, close, comev, wayv, dropv, moved, endv, takev, othersv, tailv, finv, heardv, newer_self, A.n10, A.n21, A.n12, A.m1, A.m2, A.s2, A.ne, B.n10, B.n21, B.n12, B.m1, B.m2, B.s2, B.ne]]
  rw [show closev (⟨⟨4, w0, i0, a1, a1, b1, md, cd0, rp0, sr0, 0⟩, ⟨5, w1, i1, b1, b2, a1, md, cd1, rp1, sr1, 0⟩, [hd b1 a1 17 0], [], true, true, m0, m1⟩ : Pr) 0 = (⟨⟨5, w0, i0, a1, a2, b1, md, cd0, rp0, sr0, 0⟩, ⟨5, w1, i1, b1, b2, a1, md, cd1, rp1, sr1, 0⟩, [hd b1 a1 17 0], [hd a1 b1 17 0], true, true, m0, m1⟩ : Pr) by simp [closev, close, comev, wayv, dropv, moved, endv, takev, othersv, tailv, finv, heardv, newer_self, A.n10, A.n21, A.n12, A.m1, A.m2, A.s2, A.ne, B.n10, B.n21, B.n12, B.m1, B.m2, B.s2, B.ne]]
  rw [show comev (⟨⟨5, w0, i0, a1, a2, b1, md, cd0, rp0, sr0, 0⟩, ⟨5, w1, i1, b1, b2, a1, md, cd1, rp1, sr1, 0⟩, [hd b1 a1 17 0], [hd a1 b1 17 0], true, true, m0, m1⟩ : Pr) 1 0 = (⟨⟨5, w0, i0, a1, a2, b1, md, cd0, rp0, sr0, 0⟩, ⟨7, w1, i1, b1, b2, a2, md, cd1, rp1, sr1, 0⟩, [hd b1 a1 17 0, hd b2 a2 16 0], [], true, true, m0, m1⟩ : Pr) by simp [closev, close, comev, wayv, dropv, moved, endv, takev, othersv, tailv, finv, heardv, newer_self, A.n10, A.n21, A.n12, A.m1, A.m2, A.s2, A.ne, B.n10, B.n21, B.n12, B.m1, B.m2, B.s2, B.ne]]
  rw [show comev (⟨⟨5, w0, i0, a1, a2, b1, md, cd0, rp0, sr0, 0⟩, ⟨7, w1, i1, b1, b2, a2, md, cd1, rp1, sr1, 0⟩, [hd b1 a1 17 0, hd b2 a2 16 0], [], true, true, m0, m1⟩ : Pr) 0 0 = (⟨⟨7, w0, i0, a1, a2, b2, md, cd0, rp0, sr0, 0⟩, ⟨7, w1, i1, b1, b2, a2, md, cd1, rp1, sr1, 0⟩, [hd b2 a2 16 0], [hd a2 b2 16 0], true, true, m0, m1⟩ : Pr) by simp [closev, close, comev, wayv, dropv, moved, endv, takev, othersv, tailv, finv, heardv, newer_self, A.n10, A.n21, A.n12, A.m1, A.m2, A.s2, A.ne, B.n10, B.n21, B.n12, B.m1, B.m2, B.s2, B.ne]]
  rw [show comev (⟨⟨7, w0, i0, a1, a2, b2, md, cd0, rp0, sr0, 0⟩, ⟨7, w1, i1, b1, b2, a2, md, cd1, rp1, sr1, 0⟩, [hd b2 a2 16 0], [hd a2 b2 16 0], true, true, m0, m1⟩ : Pr) 1 0 = (⟨⟨7, w0, i0, a1, a2, b2, md, cd0, rp0, sr0, 0⟩, ⟨8, w1, i1, b2, b2, a2, md, cd1, rp1, sr1, 0⟩, [hd b2 a2 16 0], [], true, true, m0, m1⟩ : Pr) by simp [closev, close, comev, wayv, dropv, moved, endv, takev, othersv, tailv, finv, heardv, newer_self, A.n10, A.n21, A.n12, A.m1, A.m2, A.s2, A.ne, B.n10, B.n21, B.n12, B.m1, B.m2, B.s2, B.ne]]
  rw [show comev (⟨⟨7, w0, i0, a1, a2, b2, md, cd0, rp0, sr0, 0⟩, ⟨8, w1, i1, b2, b2, a2, md, cd1, rp1, sr1, 0⟩, [hd b2 a2 16 0], [], true, true, m0, m1⟩ : Pr) 0 0 = (⟨⟨8, w0, i0, a2, a2, b2, md, cd0, rp0, sr0, 0⟩, ⟨8, w1, i1, b2, b2, a2, md, cd1, rp1, sr1, 0⟩, [], [], true, true, m0, m1⟩ : Pr) by simp [closev, close, comev, wayv, dropv, moved, endv, takev, othersv, tailv, finv, heardv, newer_self, A.n10, A.n21, A.n12, A.m1, A.m2, A.s2, A.ne, B.n10, B.n21, B.n12, B.m1, B.m2, B.s2, B.ne]]
  rw [show comev (⟨⟨8, w0, i0, a2, a2, b2, md, cd0, rp0, sr0, 0⟩, ⟨8, w1, i1, b2, b2, a2, md, cd1, rp1, sr1, 0⟩, [], [], true, true, m0, m1⟩ : Pr) 1 0 = (⟨⟨8, w0, i0, a2, a2, b2, md, cd0, rp0, sr0, 0⟩, ⟨8, w1, i1, b2, b2, a2, md, cd1, rp1, sr1, 0⟩, [], [], true, true, m0, m1⟩ : Pr) from rfl]
  rw [show comev (⟨⟨8, w0, i0, a2, a2, b2, md, cd0, rp0, sr0, 0⟩, ⟨8, w1, i1, b2, b2, a2, md, cd1, rp1, sr1, 0⟩, [], [], true, true, m0, m1⟩ : Pr) 0 0 = (⟨⟨8, w0, i0, a2, a2, b2, md, cd0, rp0, sr0, 0⟩, ⟨8, w1, i1, b2, b2, a2, md, cd1, rp1, sr1, 0⟩, [], [], true, true, m0, m1⟩ : Pr) from rfl]

end Go.Proofs.Ytbklomnlhpbhnaa
