import Derived.Test.YtbklomnlhpbhnaaA23
import Derived.Handy
import Derived.Deep.LoopGhost
import Derived.Deep.CutRange
import Derived.Deep.CutBlock
import Derived.Deep.DeepCutAuto
import Derived.Deep.Light
import Derived.StillTailTactics
namespace Go.Proofs.Ytbklomnlhpbhnaa
open Go.RowKit
set_option linter.unusedSimpArgs false
set_option linter.unusedVariables false
/-- Bytes that came in. -/
def Bytes (w : World) (A : Option Addr) (n : Nat) (bs : Nat → Nat) : Prop :=
  0 < n → ∃ g o, A = some ⟨g, o, none⟩ ∧ g < w.heap.size ∧ ∀ j, j < n → w.cell? ⟨g, o + j, none⟩ = some (.int .u8 (bs j)) ∧ bs j < 256
/-- A whole row is read in a region whose head only reads. -/
theorem wpStill_load_row {P : Program} {ops : Array Oper} {w : World} {Q : Act → Prop} {a : Act} {o : Oper} {rest : List Oper} (hgd : o.guard = none) (ty : TypeId) (x : Operand) (ho : o.op = .load ty x)
    (g : Nat) (hx : a.eval x = .pointer (some ⟨g, 0, none⟩)) (t : TypeId) (cs : Array Value) (fr : Nat × Nat) (d : TypeDesc) (hg : w.heap[g]? = some (.cells cs t fr))
    (hu : P.underlying ty = some d) (hd : (match d with | .struct _ | .array _ _ => true | _ => false) = true) (hi : (P.info? ty).map (·.size) = some cs.size)
    (h : wpStill P ops w Q rest (a.put o.dst (.agg cs))) : wpStill P ops w Q (o :: rest) a := by
  refine wpStill_step (fun K hK => ?_)
  have hw : Region.wanted o (yielded ops a.tmps) = true := by simp [Region.wanted, hgd]
  rw [if_pos hw]
  unfold Oper.still execOp
  simp only [ho, hx, Instr.loadAt, Instr.sureAddr, Sem.run_bind, Sem.run_pure, Result.andThen_ok, run_loadVar_row w g t ty cs fr d hg hu hd hi, Oper.stillUpon_value]
  exact hK _ h
/-- What stands behind so many steps: the pair lies in block B. -/
def AgreeSt (w : World) (B : Nat) (want able : Int) (k : Nat) (wr : World) : Prop :=
  ∃ p R A0 A1 c0 c1, Inv want able R p ∧ size p ≤ k + 1 ∧ wr.heap[B]? = some (.cells #[.int .i64 p.x0.st, .int .i64 p.x0.want, .int .u32 p.x0.iss, .int .u32 p.x0.una, .int .u32 p.x0.nxt, .int .u32 p.x0.rcv, .int .i64 p.x0.mode, .int .i64 p.x0.code, .int .u8 p.x0.reply, .int .i64 p.x0.start, .int .i64 p.x0.tries, .int .i64 p.x1.st, .int .i64 p.x1.want, .int .u32 p.x1.iss, .int .u32 p.x1.una, .int .u32 p.x1.nxt, .int .u32 p.x1.rcv, .int .i64 p.x1.mode, .int .i64 p.x1.code, .int .u8 p.x1.reply, .int .i64 p.x1.start, .int .i64 p.x1.tries, .slice A0 p.q0.length c0, .slice A1 p.q1.length c1, .bool p.o0, .bool p.o1, .int .i64 p.m0, .int .i64 p.m1] 34 (0, 0)) ∧ Way wr A0 p.q0.length p.q0 ∧ Way wr A1 p.q1.length p.q1 ∧ p.q0.length ≤ c0 ∧ p.q1.length ≤ c1 ∧ Below w.heap.size w wr
theorem agree_bad1 {M a b : Int} (h : M = min a b ∨ M = 0) (hab : b < a) (hbad : (M != b) = true ∧ (M != 0) = true) : False := by
  simp only [bne_iff_ne] at hbad; omega
theorem agree_bad2 {M a b : Int} (h : M = min a b ∨ M = 0) (hab : a ≤ b) (hbad : (M != a) = true ∧ (M != 0) = true) : False := by
  simp only [bne_iff_ne] at hbad; omega
/-- The number of a round, and what stands there. -/
def AgreeRel (w : World) (B : Nat) (want able : Int) (n gk : Nat) (i : Value) (wr : World) : Prop :=
  ∃ k : Nat, k ≤ n ∧ k ≤ 80 ∧ gk = 80 - k ∧ i = .int .i64 k ∧ AgreeSt w B want able k wr
set_option maxRecDepth 100000 in
set_option maxHeartbeats 1000000 in
theorem agrees_calls (x0 x1 i0 i1 : Int) (hx0 : 0 ≤ x0) (hx0' : x0 ≤ 255) (hx1 : 0 ≤ x1) (hx1' : x1 ≤ 255) (A : Option Addr) (n c : Nat) (bs : Nat → Nat) (w : World) (hb : Bytes w A n bs) (hn : n ≤ 9223372036854775807) :
    Calls Try.prog 3 #[.agg #[.int .u8 x0, .int .u8 x1], .agg #[.int .u32 i0, .int .u32 i1], .slice A n c] w (VPost w (.bool true)) := by
  have hw0 : 0 ≤ x0 % 3 ∧ x0 % 3 ≤ 2 := by omega
  have ha0 : 0 ≤ x1 % 3 ∧ x1 % 3 ≤ 2 := by omega
  have hinv := inv_begun hw0 ha0 i0 i1
  have hsz := begun_size (x0 % 3) (x1 % 3) i0 i1
  have hbc := begun_calls (x0 % 3) (x1 % 3) i0 i1 (clampw_of hw0) (clampw_of ha0)
  generalize begunv (x0 % 3) (x1 % 3) i0 i1 = p at hinv hsz hbc
  obtain ⟨⟨a0, a1, a2, a3, a4, a5, a6, a7, a8, a9, a10⟩, ⟨b0, b1, b2, b3, b4, b5, b6, b7, b8, b9, b10⟩, q0, q1, o0, o1, m0, m1⟩ := p
  have HW0 := Lib.hid hw0; have HA0 := Lib.hid ha0; have HI := Lib.hid hinv; have HS := Lib.hid hsz; have HBC := Lib.hid hbc; have HB := Lib.hid hb
  clear hw0 ha0 hinv hsz hbc hb
  go_enter Try.func3, Try.ntmps3
  go_wp2
  go_quiet (fail)
  go_wp2_with (first | (go_at_call 6; (with_reducible refine (HBC.out _).mono ?_); rintro e w1 ⟨A0, A1, c0, c1, rfl, hk0, hk1, hz0, hz1, hb1⟩; have LW : Hid (Below w.heap.size w w1) := Lib.hid (Below.trans (by repeat (first | exact Below.refl _ _ | refine Below.drew ?_ | refine below_drewN ?_ _ | (refine Below.alloc ?_ ?hB _; (case hB => first | (simp; done) | (simp; omega))))) (hb1.mono (by first | (simp; done) | (simp; omega)))); have Hk0 := Lib.hid hk0; have Hk1 := Lib.hid hk1; have Hz0 := Lib.hid hz0; have Hz1 := Lib.hid hz1; clear hk0 hk1 hz0 hz1 hb1; dsimp only) | (refine wpList_store_row rfl 34 (.tmp 9) (.tmp 25) rfl w1.heap.size #[.int .i64 a0, .int .i64 a1, .int .u32 a2, .int .u32 a3, .int .u32 a4, .int .u32 a5, .int .i64 a6, .int .i64 a7, .int .u8 a8, .int .i64 a9, .int .i64 a10, .int .i64 b0, .int .i64 b1, .int .u32 b2, .int .u32 b3, .int .u32 b4, .int .u32 b5, .int .i64 b6, .int .i64 b7, .int .u8 b8, .int .i64 b9, .int .i64 b10, .slice A0 q0.length c0, .slice A1 q1.length c1, .bool o0, .bool o1, .int .i64 m0, .int .i64 m1] rfl rfl 34 #[.int .i64 0, .int .i64 0, .int .u32 0, .int .u32 0, .int .u32 0, .int .u32 0, .int .i64 0, .int .i64 0, .int .u8 0, .int .i64 0, .int .i64 0, .int .i64 0, .int .i64 0, .int .u32 0, .int .u32 0, .int .u32 0, .int .u32 0, .int .i64 0, .int .i64 0, .int .u8 0, .int .i64 0, .int .i64 0, .slice none 0 0, .slice none 0 0, .bool false, .bool false, .int .i64 0, .int .i64 0] (heap_new rfl) (pair_size _ _ _ _ _ _ _ _ _ _ _ _ _ _ _ _ _ _ _ _ _ _ _ _ _ _ _ _ _ _ _ _ ) rfl (pair_one _ _ _ _ _ _ _ _ _ _ _ _ _ _ _ _ _ _ _ _ _ _ _ _ _ _ _ _ _ _ _ _ ) ?_))
  go_loopg [10] 80 (fun gk i wr => AgreeRel w w1.heap.size (x0 % 3) (x1 % 3) n gk i wr)
  case atStart =>
    exact ⟨0, Nat.zero_le _, by omega, rfl, rfl, ⟨⟨a0, a1, a2, a3, a4, a5, a6, a7, a8, a9, a10⟩, ⟨b0, b1, b2, b3, b4, b5, b6, b7, b8, b9, b10⟩, q0, q1, o0, o1, m0, m1⟩, none, A0, A1, c0, c1, HI.out, HS.out, setRow_heap _ _ #[.int .i64 0, .int .i64 0, .int .u32 0, .int .u32 0, .int .u32 0, .int .u32 0, .int .i64 0, .int .i64 0, .int .u8 0, .int .i64 0, .int .i64 0, .int .i64 0, .int .i64 0, .int .u32 0, .int .u32 0, .int .u32 0, .int .u32 0, .int .i64 0, .int .i64 0, .int .u8 0, .int .i64 0, .int .i64 0, .slice none 0 0, .slice none 0 0, .bool false, .bool false, .int .i64 0, .int .i64 0] _ 34 (0, 0) (heap_new rfl), Hk0.out.keep (KeepH.setRow (KeepH.alloc (KeepH.refl _) _) (heap_new rfl) (by decide) _), Hk1.out.keep (KeepH.setRow (KeepH.alloc (KeepH.refl _) _) (heap_new rfl) (by decide) _), Hz0.out, Hz1.out, below_setRow (LW.out.alloc LW.out.size _) LW.out.size _⟩
  case round =>
    clear HI HS HBC Hk0 Hk1 Hz0 Hz1
    obtain ⟨k, hk1, hk2, hgk, rfl, hst⟩ := hrel
    have HG := Lib.hid hgk; clear hgk
    have L2 : Hid (w1.heap.size < wr.heap.size ∧ w.heap.size ≤ w1.heap.size) := Lib.hid (by
      obtain ⟨_, _, _, _, _, _, _, _, hh, _⟩ := hst
      exact ⟨(Array.getElem?_eq_some_iff.1 hh).1, LW.out.size⟩)
    have ST := Lib.hid hst; clear hst
    by_cases hlt : k < n ∧ k < 80
    · obtain ⟨hl1, hl2⟩ := hlt
      obtain ⟨g, o, rfl, hg, hbs⟩ := HB.out (by omega)
      obtain ⟨hc0, hb0⟩ := hbs k hl1
      have hcell : wr.cell? ⟨g, o + k, none⟩ = some (.int .u8 (bs k)) := by
        obtain ⟨_, _, _, _, _, _, _, _, _, _, _, _, _, hbel⟩ := ST.out
        exact (hbel.cell (p := ⟨g, o + k, none⟩) hg).trans hc0
      clear hbs hc0 hg
      generalize bs k = b at hb0 hcell
      go_upto_block 2 with fail
      go_cut [11, 12, 13] (fun _ _ _ wx => AgreeSt w w1.heap.size (x0 % 3) (x1 % 3) (k + 1) wx)
      case first =>
        obtain ⟨p, R, D0, D1, C0, C1, hv, hsz, hh, hw0, hw1, hz0, hz1, hbel⟩ := ST.out
        obtain ⟨⟨P0, P1, P2, P3, P4, P5, P6, P7, P8, P9, P10⟩, ⟨Q0, Q1, Q2, Q3, Q4, Q5, Q6, Q7, Q8, Q9, Q10⟩, L0, L1, O0, O1, M0, M1⟩ := p
        dsimp only at hh hw0 hw1 hz0 hz1
        obtain ⟨R', hv2⟩ := inv_step HW0.out HA0.out hv b
        have hs2 : size (stepv ⟨⟨P0, P1, P2, P3, P4, P5, P6, P7, P8, P9, P10⟩, ⟨Q0, Q1, Q2, Q3, Q4, Q5, Q6, Q7, Q8, Q9, Q10⟩, L0, L1, O0, O1, M0, M1⟩ b) ≤ k + 1 + 1 := Nat.le_trans (step_size _ _) (by omega)
        obtain ⟨r9, f9⟩ := blk_cells hh
        have HH := Lib.hid hh; have HW0' := Lib.hid hw0; have HW1' := Lib.hid hw1; have HZ0' := Lib.hid hz0; have HZ1' := Lib.hid hz1; have HBEL := Lib.hid hbel
        clear hv hh hw0 hw1 hz0 hz1 hbel ST
        have hbI : (0 : Int) ≤ (b : Int) := Int.natCast_nonneg _
        rcases (by omega : b % 2 = 0 ∨ b % 2 = 1) with hi | hi
        · by_cases hk : b / 2 % 8 = 0
          · have e : stepv ⟨⟨P0, P1, P2, P3, P4, P5, P6, P7, P8, P9, P10⟩, ⟨Q0, Q1, Q2, Q3, Q4, Q5, Q6, Q7, Q8, Q9, Q10⟩, L0, L1, O0, O1, M0, M1⟩ b = dropv ⟨⟨P0, P1, P2, P3, P4, P5, P6, P7, P8, P9, P10⟩, ⟨Q0, Q1, Q2, Q3, Q4, Q5, Q6, Q7, Q8, Q9, Q10⟩, L0, L1, O0, O1, M0, M1⟩ 0 := by unfold stepv; rw [if_pos hk, hi]
            rw [e] at hs2 hv2
            have he : (b : Int) % 2 = 0 := by omega
            have h47 : ((b : Int) / 2 % 8 == 0) = true := by rw [beq_iff_eq]; omega
            have HS2 := Lib.hid hs2; have HV2 := Lib.hid hv2
            clear hs2 hv2 e hk hi hsz hb0
            cases L0 with
            | nil =>
              have hq : ((([] : List H).length : Nat) : Int) = 0 := rfl
              go_wp2_with fail
              go_meet
              case rel =>
                exact ⟨_, R', D0, D1, C0, C1, HV2.out, HS2.out, HH.out, HW0'.out, HW1'.out, HZ0'.out, HZ1'.out, HBEL.out⟩
            | cons x l =>
              obtain ⟨g', o', hD, _, _, _, hwl⟩ := HW0'.out.first
              subst hD
              have HWL := Lib.hid hwl; clear hwl
              have hlen : 0 < (x :: l).length := Nat.succ_pos _
              have hlc : (x :: l).length ≤ C0 := HZ0'.out
              have HLEN : Hid ((x :: l).length = l.length + 1) := Lib.hid rfl
              generalize (x :: l).length = nn at hlen hlc HLEN HH HW0' HZ0' r9 HS2
              by_cases hc1 : C0 = 1
              · subst hc1
                obtain rfl : nn = 1 := by omega
                have hl0 : l = [] := List.eq_nil_of_length_eq_zero (by have := HLEN.out; omega)
                subst hl0
                go_wp2_with fail
                go_meet
                case rel =>
                  exact ⟨_, R', _, D1, _, C1, HV2.out, HS2.out, heap_set HH.out rfl, (HWL.out _ (KeepH.set (KeepH.refl _) (t := 34) ⟨_, HH.out⟩ (by decide) _)).2 (by first | exact rfl | trivial) _, HW1'.out.keep (KeepH.set (KeepH.refl _) (t := 34) ⟨_, HH.out⟩ (by decide) _), Nat.zero_le _, HZ1'.out, HBEL.out.setCell L2.out.2 _⟩
              · have hn1 : 1 ≤ nn := hlen
                go_wp2_with fail
                go_meet
                case rel =>
                  have hll : nn - 1 = l.length := by have := HLEN.out; omega
                  rw [hll]
                  exact ⟨_, R', _, D1, _, C1, HV2.out, HS2.out, heap_set HH.out rfl, (HWL.out _ (KeepH.set (KeepH.refl _) (t := 34) ⟨_, HH.out⟩ (by decide) _)).1, HW1'.out.keep (KeepH.set (KeepH.refl _) (t := 34) ⟨_, HH.out⟩ (by decide) _), hll ▸ Nat.sub_le_sub_right HZ0'.out 1, HZ1'.out, HBEL.out.setCell L2.out.2 _⟩
          by_cases hk1 : b / 2 % 8 = 1
          · have hk0 := hk; clear hk; have hk := hk1; clear hk1 hk0
            obtain ⟨⟨⟨r0, r1, r2, r3, r4, r5, r6, r7, r8, r9, r10⟩, rl⟩, hT⟩ : ∃ r, timeout ⟨P0, P1, P2, P3, P4, P5, P6, P7, P8, P9, P10⟩ = r := ⟨_, rfl⟩
            have hrl : rl.length ≤ 1 := by have := timeout_len ⟨P0, P1, P2, P3, P4, P5, P6, P7, P8, P9, P10⟩; rw [hT] at this; exact this
            obtain ⟨⟨⟨e0, e1, e2, e3, e4, e5, e6, e7, e8, e9, e10⟩, ⟨f0, f1, f2, f3, f4, f5, f6, f7, f8, f9, f10⟩, k0, k1, y0, y1, z0, z1⟩, hM⟩ : ∃ r, moved ⟨⟨P0, P1, P2, P3, P4, P5, P6, P7, P8, P9, P10⟩, ⟨Q0, Q1, Q2, Q3, Q4, Q5, Q6, Q7, Q8, Q9, Q10⟩, L0, L1, O0, O1, M0, M1⟩ 0 ⟨r0, r1, r2, r3, r4, r5, r6, r7, r8, r9, r10⟩ rl = r := ⟨_, rfl⟩
            have e : stepv ⟨⟨P0, P1, P2, P3, P4, P5, P6, P7, P8, P9, P10⟩, ⟨Q0, Q1, Q2, Q3, Q4, Q5, Q6, Q7, Q8, Q9, Q10⟩, L0, L1, O0, O1, M0, M1⟩ b = ⟨⟨e0, e1, e2, e3, e4, e5, e6, e7, e8, e9, e10⟩, ⟨f0, f1, f2, f3, f4, f5, f6, f7, f8, f9, f10⟩, k0, k1, y0, y1, z0, z1⟩ := by
              rw [← hM]; unfold stepv timev; rw [if_neg (by omega), if_pos hk, hi]
              show moved ⟨⟨P0, P1, P2, P3, P4, P5, P6, P7, P8, P9, P10⟩, ⟨Q0, Q1, Q2, Q3, Q4, Q5, Q6, Q7, Q8, Q9, Q10⟩, L0, L1, O0, O1, M0, M1⟩ 0 (timeout ⟨P0, P1, P2, P3, P4, P5, P6, P7, P8, P9, P10⟩).1 (timeout ⟨P0, P1, P2, P3, P4, P5, P6, P7, P8, P9, P10⟩).2 = _
              rw [hT]
            rw [e] at hs2 hv2
            have HT : Hid (∀ W, Calls Try.prog 7 #[(Value.agg #[.int .i64 P0, .int .i64 P1, .int .u32 P2, .int .u32 P3, .int .u32 P4, .int .u32 P5, .int .i64 P6, .int .i64 P7, .int .u8 P8, .int .i64 P9, .int .i64 P10])] W (CPost W (⟨r0, r1, r2, r3, r4, r5, r6, r7, r8, r9, r10⟩, rl))) := Lib.hid (fun W => hT ▸ timeout_calls P0 P1 P2 P3 P4 P5 P6 P7 P8 P9 P10 W)
            have HM : Hid (∀ (W : World) (J0 J1 JL : Option Addr) (N0 N1 NL c0' c1' cl' : Nat), Way W J0 N0 L0 → Way W J1 N1 L1 → Way W JL NL rl → N0 ≤ c0' → N1 ≤ c1' → N1 + NL ≤ 1000 → Calls Try.prog 8 #[(Value.agg #[.int .i64 P0, .int .i64 P1, .int .u32 P2, .int .u32 P3, .int .u32 P4, .int .u32 P5, .int .i64 P6, .int .i64 P7, .int .u8 P8, .int .i64 P9, .int .i64 P10, .int .i64 Q0, .int .i64 Q1, .int .u32 Q2, .int .u32 Q3, .int .u32 Q4, .int .u32 Q5, .int .i64 Q6, .int .i64 Q7, .int .u8 Q8, .int .i64 Q9, .int .i64 Q10, .slice J0 N0 c0', .slice J1 N1 c1', .bool O0, .bool O1, .int .i64 M0, .int .i64 M1]), .int .i64 0, (Value.agg #[.int .i64 r0, .int .i64 r1, .int .u32 r2, .int .u32 r3, .int .u32 r4, .int .u32 r5, .int .i64 r6, .int .i64 r7, .int .u8 r8, .int .i64 r9, .int .i64 r10]), .slice JL NL cl'] W (PPost W ⟨⟨e0, e1, e2, e3, e4, e5, e6, e7, e8, e9, e10⟩, ⟨f0, f1, f2, f3, f4, f5, f6, f7, f8, f9, f10⟩, k0, k1, y0, y1, z0, z1⟩)) :=
              Lib.hid (fun W J0 J1 JL N0 N1 NL c0' c1' cl' a b c d e f => hM ▸ moved_0 P0 P1 P2 P3 P4 P5 P6 P7 P8 P9 P10 Q0 Q1 Q2 Q3 Q4 Q5 Q6 Q7 Q8 Q9 Q10 r0 r1 r2 r3 r4 r5 r6 r7 r8 r9 r10 M0 M1 J0 J1 JL N0 N1 NL c0' c1' cl' O0 O1 L0 L1 rl W a b c d e f)
            have HZ : Hid (L1.length + rl.length ≤ 1000) := Lib.hid (by have : L0.length + L1.length ≤ k + 1 := hsz; omega)
            have he : (b : Int) % 2 = 0 := by omega
            have h47 : ((b : Int) / 2 % 8 == 0) = false := by rw [beq_eq_false_iff_ne]; omega
            have h48 : ((b : Int) / 2 % 8 == 1) = true := by rw [beq_iff_eq]; omega
            have HS2 := Lib.hid hs2; have HV2 := Lib.hid hv2
            clear hT hM hs2 hv2 e hk hi hsz hb0
            go_wp2_with (first | (go_at_call 7; (with_reducible refine (HT.out _).mono ?_); rintro e w3 ⟨v3, rfl, hs3, hb3⟩; obtain ⟨A3, d3, rfl, hw3, hd3⟩ := Way.of_segs hs3; have G3 := Lib.hid (blockK hb3 HH.out); have Hb3 := Lib.hid hb3; have Hw3 := Lib.hid hw3; clear hs3 hb3 hw3 hd3; dsimp only [C.v]) | (refine wpList_load_row rfl 34 (.tmp 9) rfl w1.heap.size rfl 34 #[.int .i64 P0, .int .i64 P1, .int .u32 P2, .int .u32 P3, .int .u32 P4, .int .u32 P5, .int .i64 P6, .int .i64 P7, .int .u8 P8, .int .i64 P9, .int .i64 P10, .int .i64 Q0, .int .i64 Q1, .int .u32 Q2, .int .u32 Q3, .int .u32 Q4, .int .u32 Q5, .int .i64 Q6, .int .i64 Q7, .int .u8 Q8, .int .i64 Q9, .int .i64 Q10, .slice D0 L0.length C0, .slice D1 L1.length C1, .bool O0, .bool O1, .int .i64 M0, .int .i64 M1] (0, 0) _ (heap_alloc G3.out _) Try.underlying34 rfl (by kernel_rfl) ?_) | (go_at_call 8; refine (HM.out _ _ _ _ _ _ _ _ _ _ ?w0 ?w1 ?wl ?z0 ?z1 ?zz).mono ?_; (case w0 => exact HW0'.out.below (bchain2 Hb3.out ((Below.refl _ _).alloc (Nat.le_refl _) _))); (case w1 => exact HW1'.out.below (bchain2 Hb3.out ((Below.refl _ _).alloc (Nat.le_refl _) _))); (case wl => exact Hw3.out.keep (KeepH.alloc (KeepH.refl _) _)); (case z0 => exact HZ0'.out); (case z1 => exact HZ1'.out); (case zz => exact HZ.out); rintro e4 w4 ⟨B0, B1, d0, d1, rfl, hw0, hw1, hz0, hz1, hb4⟩; have G4 := Lib.hid (blockK hb4 (heap_alloc G3.out _)); have L4 := Lib.hid (bchain2 HBEL.out (bchain2 Hb3.out (bchain2 ((Below.refl _ _).alloc (Nat.le_refl _) _) hb4))); have Hw0 := Lib.hid hw0; have Hw1 := Lib.hid hw1; have Hz0 := Lib.hid hz0; have Hz1 := Lib.hid hz1; clear hw0 hw1 hz0 hz1 hb4) | (refine wpList_store_row rfl 34 (.tmp 9) (.tmp 88) rfl w1.heap.size #[.int .i64 e0, .int .i64 e1, .int .u32 e2, .int .u32 e3, .int .u32 e4, .int .u32 e5, .int .i64 e6, .int .i64 e7, .int .u8 e8, .int .i64 e9, .int .i64 e10, .int .i64 f0, .int .i64 f1, .int .u32 f2, .int .u32 f3, .int .u32 f4, .int .u32 f5, .int .i64 f6, .int .i64 f7, .int .u8 f8, .int .i64 f9, .int .i64 f10, .slice B0 k0.length d0, .slice B1 k1.length d1, .bool y0, .bool y1, .int .i64 z0, .int .i64 z1] rfl rfl 34 #[.int .i64 P0, .int .i64 P1, .int .u32 P2, .int .u32 P3, .int .u32 P4, .int .u32 P5, .int .i64 P6, .int .i64 P7, .int .u8 P8, .int .i64 P9, .int .i64 P10, .int .i64 Q0, .int .i64 Q1, .int .u32 Q2, .int .u32 Q3, .int .u32 Q4, .int .u32 Q5, .int .i64 Q6, .int .i64 Q7, .int .u8 Q8, .int .i64 Q9, .int .i64 Q10, .slice D0 L0.length C0, .slice D1 L1.length C1, .bool O0, .bool O1, .int .i64 M0, .int .i64 M1] G4.out (pair_size _ _ _ _ _ _ _ _ _ _ _ _ _ _ _ _ _ _ _ _ _ _ _ _ _ _ _ _ _ _ _ _ ) rfl (pair_one _ _ _ _ _ _ _ _ _ _ _ _ _ _ _ _ _ _ _ _ _ _ _ _ _ _ _ _ _ _ _ _ ) ?_))
            go_meet
            case rel =>
              exact ⟨⟨⟨e0, e1, e2, e3, e4, e5, e6, e7, e8, e9, e10⟩, ⟨f0, f1, f2, f3, f4, f5, f6, f7, f8, f9, f10⟩, k0, k1, y0, y1, z0, z1⟩, R', B0, B1, d0, d1, HV2.out, HS2.out, setRow_heap _ _ #[.int .i64 P0, .int .i64 P1, .int .u32 P2, .int .u32 P3, .int .u32 P4, .int .u32 P5, .int .i64 P6, .int .i64 P7, .int .u8 P8, .int .i64 P9, .int .i64 P10, .int .i64 Q0, .int .i64 Q1, .int .u32 Q2, .int .u32 Q3, .int .u32 Q4, .int .u32 Q5, .int .i64 Q6, .int .i64 Q7, .int .u8 Q8, .int .i64 Q9, .int .i64 Q10, .slice D0 L0.length C0, .slice D1 L1.length C1, .bool O0, .bool O1, .int .i64 M0, .int .i64 M1] _ 34 (0, 0) G4.out, Hw0.out.keep (KeepH.setRow (KeepH.refl _) G4.out (by decide) _), Hw1.out.keep (KeepH.setRow (KeepH.refl _) G4.out (by decide) _), Hz0.out, Hz1.out, below_setRow L4.out L2.out.2 _⟩
          · have hk0 := hk; clear hk
            obtain ⟨⟨⟨e0, e1, e2, e3, e4, e5, e6, e7, e8, e9, e10⟩, ⟨f0, f1, f2, f3, f4, f5, f6, f7, f8, f9, f10⟩, k0, k1, y0, y1, z0, z1⟩, hM⟩ : ∃ r, comev ⟨⟨P0, P1, P2, P3, P4, P5, P6, P7, P8, P9, P10⟩, ⟨Q0, Q1, Q2, Q3, Q4, Q5, Q6, Q7, Q8, Q9, Q10⟩, L0, L1, O0, O1, M0, M1⟩ 0 ((b / 16 % 4 : Nat) : Int) = r := ⟨_, rfl⟩
            have e : stepv ⟨⟨P0, P1, P2, P3, P4, P5, P6, P7, P8, P9, P10⟩, ⟨Q0, Q1, Q2, Q3, Q4, Q5, Q6, Q7, Q8, Q9, Q10⟩, L0, L1, O0, O1, M0, M1⟩ b = ⟨⟨e0, e1, e2, e3, e4, e5, e6, e7, e8, e9, e10⟩, ⟨f0, f1, f2, f3, f4, f5, f6, f7, f8, f9, f10⟩, k0, k1, y0, y1, z0, z1⟩ := by
              rw [← hM]; unfold stepv; rw [if_neg hk0, if_neg hk1, hi]
            rw [e] at hs2 hv2
            have hu : ((b / 16 % 4 : Nat) : Int) = (b : Int) / 16 % 4 := by omega
            rw [hu] at hM
            have HM : Hid (∀ (W : World) (J0 J1 : Option Addr) (N0 N1 c0' c1' : Nat), Way W J0 N0 L0 → Way W J1 N1 L1 → N0 ≤ c0' → N1 ≤ c1' → N1 + 1 ≤ 1000 → Calls Try.prog 9 #[(Value.agg #[.int .i64 P0, .int .i64 P1, .int .u32 P2, .int .u32 P3, .int .u32 P4, .int .u32 P5, .int .i64 P6, .int .i64 P7, .int .u8 P8, .int .i64 P9, .int .i64 P10, .int .i64 Q0, .int .i64 Q1, .int .u32 Q2, .int .u32 Q3, .int .u32 Q4, .int .u32 Q5, .int .i64 Q6, .int .i64 Q7, .int .u8 Q8, .int .i64 Q9, .int .i64 Q10, .slice J0 N0 c0', .slice J1 N1 c1', .bool O0, .bool O1, .int .i64 M0, .int .i64 M1]), .int .i64 0, .int .i64 ((b : Int) / 16 % 4)] W (PPost W ⟨⟨e0, e1, e2, e3, e4, e5, e6, e7, e8, e9, e10⟩, ⟨f0, f1, f2, f3, f4, f5, f6, f7, f8, f9, f10⟩, k0, k1, y0, y1, z0, z1⟩)) :=
              Lib.hid (fun W J0 J1 N0 N1 c0' c1' a b' c d e => hM ▸ come_0 P0 P1 P2 P3 P4 P5 P6 P7 P8 P9 P10 Q0 Q1 Q2 Q3 Q4 Q5 Q6 Q7 Q8 Q9 Q10 _ M0 M1 J0 J1 N0 N1 c0' c1' O0 O1 L0 L1 W a b' c d e)
            have HZ : Hid (L1.length + 1 ≤ 1000) := Lib.hid (by have : L0.length + L1.length ≤ k + 1 := hsz; omega)
            have he : (b : Int) % 2 = 0 := by omega
            have h47 : ((b : Int) / 2 % 8 == 0) = false := by rw [beq_eq_false_iff_ne]; omega
            have h48 : ((b : Int) / 2 % 8 == 1) = false := by rw [beq_eq_false_iff_ne]; omega
            have HS2 := Lib.hid hs2; have HV2 := Lib.hid hv2
            clear hM hs2 hv2 e hk0 hk1 hi hsz hu
            go_wp2_with fail
            refine wp_region_still_tail 9 (by kernel_rfl) (by kernel_rfl) ?_
            simp only [List.take_succ_cons, List.take_zero, List.drop_succ_cons, List.drop_zero]
            refine wpStill_load_row rfl 34 (.tmp 9) rfl w1.heap.size rfl 34 #[.int .i64 P0, .int .i64 P1, .int .u32 P2, .int .u32 P3, .int .u32 P4, .int .u32 P5, .int .i64 P6, .int .i64 P7, .int .u8 P8, .int .i64 P9, .int .i64 P10, .int .i64 Q0, .int .i64 Q1, .int .u32 Q2, .int .u32 Q3, .int .u32 Q4, .int .u32 Q5, .int .i64 Q6, .int .i64 Q7, .int .u8 Q8, .int .i64 Q9, .int .i64 Q10, .slice D0 L0.length C0, .slice D1 L1.length C1, .bool O0, .bool O1, .int .i64 M0, .int .i64 M1] (0, 0) _ HH.out Try.underlying34 rfl (by kernel_rfl) ?_
            repeat still_step
            refine wpStill_nil ?_
            go_wp2_with (first | (go_at_call 9; refine (HM.out _ _ _ _ _ _ _ ?w0 ?w1 ?z0 ?z1 ?zz).mono ?_; (case w0 => exact HW0'.out.below (Below.refl _ _).drew); (case w1 => exact HW1'.out.below (Below.refl _ _).drew); (case z0 => exact HZ0'.out); (case z1 => exact HZ1'.out); (case zz => exact HZ.out); rintro e4 w4 ⟨B0, B1, d0, d1, rfl, hw0, hw1, hz0, hz1, hb4⟩; have G4 := Lib.hid (blockK hb4 (heap_drew HH.out)); have L4 := Lib.hid (bchain2 HBEL.out.drew hb4); have Hw0 := Lib.hid hw0; have Hw1 := Lib.hid hw1; have Hz0 := Lib.hid hz0; have Hz1 := Lib.hid hz1; clear hw0 hw1 hz0 hz1 hb4) | (refine wpList_store_row rfl 34 (.tmp 9) (.tmp 57) rfl w1.heap.size #[.int .i64 e0, .int .i64 e1, .int .u32 e2, .int .u32 e3, .int .u32 e4, .int .u32 e5, .int .i64 e6, .int .i64 e7, .int .u8 e8, .int .i64 e9, .int .i64 e10, .int .i64 f0, .int .i64 f1, .int .u32 f2, .int .u32 f3, .int .u32 f4, .int .u32 f5, .int .i64 f6, .int .i64 f7, .int .u8 f8, .int .i64 f9, .int .i64 f10, .slice B0 k0.length d0, .slice B1 k1.length d1, .bool y0, .bool y1, .int .i64 z0, .int .i64 z1] rfl rfl 34 #[.int .i64 P0, .int .i64 P1, .int .u32 P2, .int .u32 P3, .int .u32 P4, .int .u32 P5, .int .i64 P6, .int .i64 P7, .int .u8 P8, .int .i64 P9, .int .i64 P10, .int .i64 Q0, .int .i64 Q1, .int .u32 Q2, .int .u32 Q3, .int .u32 Q4, .int .u32 Q5, .int .i64 Q6, .int .i64 Q7, .int .u8 Q8, .int .i64 Q9, .int .i64 Q10, .slice D0 L0.length C0, .slice D1 L1.length C1, .bool O0, .bool O1, .int .i64 M0, .int .i64 M1] G4.out (pair_size _ _ _ _ _ _ _ _ _ _ _ _ _ _ _ _ _ _ _ _ _ _ _ _ _ _ _ _ _ _ _ _ ) rfl (pair_one _ _ _ _ _ _ _ _ _ _ _ _ _ _ _ _ _ _ _ _ _ _ _ _ _ _ _ _ _ _ _ _ ) ?_))
            go_meet
            case rel =>
              exact ⟨⟨⟨e0, e1, e2, e3, e4, e5, e6, e7, e8, e9, e10⟩, ⟨f0, f1, f2, f3, f4, f5, f6, f7, f8, f9, f10⟩, k0, k1, y0, y1, z0, z1⟩, R', B0, B1, d0, d1, HV2.out, HS2.out, setRow_heap _ _ #[.int .i64 P0, .int .i64 P1, .int .u32 P2, .int .u32 P3, .int .u32 P4, .int .u32 P5, .int .i64 P6, .int .i64 P7, .int .u8 P8, .int .i64 P9, .int .i64 P10, .int .i64 Q0, .int .i64 Q1, .int .u32 Q2, .int .u32 Q3, .int .u32 Q4, .int .u32 Q5, .int .i64 Q6, .int .i64 Q7, .int .u8 Q8, .int .i64 Q9, .int .i64 Q10, .slice D0 L0.length C0, .slice D1 L1.length C1, .bool O0, .bool O1, .int .i64 M0, .int .i64 M1] _ 34 (0, 0) G4.out, Hw0.out.keep (KeepH.setRow (KeepH.refl _) G4.out (by decide) _), Hw1.out.keep (KeepH.setRow (KeepH.refl _) G4.out (by decide) _), Hz0.out, Hz1.out, below_setRow L4.out L2.out.2 _⟩
        · by_cases hk : b / 2 % 8 = 0
          · have e : stepv ⟨⟨P0, P1, P2, P3, P4, P5, P6, P7, P8, P9, P10⟩, ⟨Q0, Q1, Q2, Q3, Q4, Q5, Q6, Q7, Q8, Q9, Q10⟩, L0, L1, O0, O1, M0, M1⟩ b = dropv ⟨⟨P0, P1, P2, P3, P4, P5, P6, P7, P8, P9, P10⟩, ⟨Q0, Q1, Q2, Q3, Q4, Q5, Q6, Q7, Q8, Q9, Q10⟩, L0, L1, O0, O1, M0, M1⟩ 1 := by unfold stepv; rw [if_pos hk, hi]
            rw [e] at hs2 hv2
            have he : (b : Int) % 2 = 1 := by omega
            have h47 : ((b : Int) / 2 % 8 == 0) = true := by rw [beq_iff_eq]; omega
            have HS2 := Lib.hid hs2; have HV2 := Lib.hid hv2
            clear hs2 hv2 e hk hi hsz hb0
            cases L1 with
            | nil =>
              have hq : ((([] : List H).length : Nat) : Int) = 0 := rfl
              go_wp2_with fail
              go_meet
              case rel =>
                exact ⟨_, R', D0, D1, C0, C1, HV2.out, HS2.out, HH.out, HW0'.out, HW1'.out, HZ0'.out, HZ1'.out, HBEL.out⟩
            | cons x l =>
              obtain ⟨g', o', hD, _, _, _, hwl⟩ := HW1'.out.first
              subst hD
              have HWL := Lib.hid hwl; clear hwl
              have hlen : 0 < (x :: l).length := Nat.succ_pos _
              have hlc : (x :: l).length ≤ C1 := HZ1'.out
              have HLEN : Hid ((x :: l).length = l.length + 1) := Lib.hid rfl
              generalize (x :: l).length = nn at hlen hlc HLEN HH HW1' HZ1' r9 HS2
              by_cases hc1 : C1 = 1
              · subst hc1
                obtain rfl : nn = 1 := by omega
                have hl0 : l = [] := List.eq_nil_of_length_eq_zero (by have := HLEN.out; omega)
                subst hl0
                go_wp2_with fail
                go_meet
                case rel =>
                  exact ⟨_, R', D0, _, C0, _, HV2.out, HS2.out, heap_set HH.out rfl, HW0'.out.keep (KeepH.set (KeepH.refl _) (t := 34) ⟨_, HH.out⟩ (by decide) _), (HWL.out _ (KeepH.set (KeepH.refl _) (t := 34) ⟨_, HH.out⟩ (by decide) _)).2 (by first | exact rfl | trivial) _, HZ0'.out, Nat.zero_le _, HBEL.out.setCell L2.out.2 _⟩
              · have hn1 : 1 ≤ nn := hlen
                go_wp2_with fail
                go_meet
                case rel =>
                  have hll : nn - 1 = l.length := by have := HLEN.out; omega
                  rw [hll]
                  exact ⟨_, R', D0, _, C0, _, HV2.out, HS2.out, heap_set HH.out rfl, HW0'.out.keep (KeepH.set (KeepH.refl _) (t := 34) ⟨_, HH.out⟩ (by decide) _), (HWL.out _ (KeepH.set (KeepH.refl _) (t := 34) ⟨_, HH.out⟩ (by decide) _)).1, HZ0'.out, hll ▸ Nat.sub_le_sub_right HZ1'.out 1, HBEL.out.setCell L2.out.2 _⟩
          by_cases hk1 : b / 2 % 8 = 1
          · have hk0 := hk; clear hk; have hk := hk1; clear hk1 hk0
            obtain ⟨⟨⟨r0, r1, r2, r3, r4, r5, r6, r7, r8, r9, r10⟩, rl⟩, hT⟩ : ∃ r, timeout ⟨Q0, Q1, Q2, Q3, Q4, Q5, Q6, Q7, Q8, Q9, Q10⟩ = r := ⟨_, rfl⟩
            have hrl : rl.length ≤ 1 := by have := timeout_len ⟨Q0, Q1, Q2, Q3, Q4, Q5, Q6, Q7, Q8, Q9, Q10⟩; rw [hT] at this; exact this
            obtain ⟨⟨⟨e0, e1, e2, e3, e4, e5, e6, e7, e8, e9, e10⟩, ⟨f0, f1, f2, f3, f4, f5, f6, f7, f8, f9, f10⟩, k0, k1, y0, y1, z0, z1⟩, hM⟩ : ∃ r, moved ⟨⟨P0, P1, P2, P3, P4, P5, P6, P7, P8, P9, P10⟩, ⟨Q0, Q1, Q2, Q3, Q4, Q5, Q6, Q7, Q8, Q9, Q10⟩, L0, L1, O0, O1, M0, M1⟩ 1 ⟨r0, r1, r2, r3, r4, r5, r6, r7, r8, r9, r10⟩ rl = r := ⟨_, rfl⟩
            have e : stepv ⟨⟨P0, P1, P2, P3, P4, P5, P6, P7, P8, P9, P10⟩, ⟨Q0, Q1, Q2, Q3, Q4, Q5, Q6, Q7, Q8, Q9, Q10⟩, L0, L1, O0, O1, M0, M1⟩ b = ⟨⟨e0, e1, e2, e3, e4, e5, e6, e7, e8, e9, e10⟩, ⟨f0, f1, f2, f3, f4, f5, f6, f7, f8, f9, f10⟩, k0, k1, y0, y1, z0, z1⟩ := by
              rw [← hM]; unfold stepv timev; rw [if_neg (by omega), if_pos hk, hi]
              show moved ⟨⟨P0, P1, P2, P3, P4, P5, P6, P7, P8, P9, P10⟩, ⟨Q0, Q1, Q2, Q3, Q4, Q5, Q6, Q7, Q8, Q9, Q10⟩, L0, L1, O0, O1, M0, M1⟩ 1 (timeout ⟨Q0, Q1, Q2, Q3, Q4, Q5, Q6, Q7, Q8, Q9, Q10⟩).1 (timeout ⟨Q0, Q1, Q2, Q3, Q4, Q5, Q6, Q7, Q8, Q9, Q10⟩).2 = _
              rw [hT]
            rw [e] at hs2 hv2
            have HT : Hid (∀ W, Calls Try.prog 7 #[(Value.agg #[.int .i64 Q0, .int .i64 Q1, .int .u32 Q2, .int .u32 Q3, .int .u32 Q4, .int .u32 Q5, .int .i64 Q6, .int .i64 Q7, .int .u8 Q8, .int .i64 Q9, .int .i64 Q10])] W (CPost W (⟨r0, r1, r2, r3, r4, r5, r6, r7, r8, r9, r10⟩, rl))) := Lib.hid (fun W => hT ▸ timeout_calls Q0 Q1 Q2 Q3 Q4 Q5 Q6 Q7 Q8 Q9 Q10 W)
            have HM : Hid (∀ (W : World) (J0 J1 JL : Option Addr) (N0 N1 NL c0' c1' cl' : Nat), Way W J0 N0 L0 → Way W J1 N1 L1 → Way W JL NL rl → N0 ≤ c0' → N1 ≤ c1' → N0 + NL ≤ 1000 → Calls Try.prog 8 #[(Value.agg #[.int .i64 P0, .int .i64 P1, .int .u32 P2, .int .u32 P3, .int .u32 P4, .int .u32 P5, .int .i64 P6, .int .i64 P7, .int .u8 P8, .int .i64 P9, .int .i64 P10, .int .i64 Q0, .int .i64 Q1, .int .u32 Q2, .int .u32 Q3, .int .u32 Q4, .int .u32 Q5, .int .i64 Q6, .int .i64 Q7, .int .u8 Q8, .int .i64 Q9, .int .i64 Q10, .slice J0 N0 c0', .slice J1 N1 c1', .bool O0, .bool O1, .int .i64 M0, .int .i64 M1]), .int .i64 1, (Value.agg #[.int .i64 r0, .int .i64 r1, .int .u32 r2, .int .u32 r3, .int .u32 r4, .int .u32 r5, .int .i64 r6, .int .i64 r7, .int .u8 r8, .int .i64 r9, .int .i64 r10]), .slice JL NL cl'] W (PPost W ⟨⟨e0, e1, e2, e3, e4, e5, e6, e7, e8, e9, e10⟩, ⟨f0, f1, f2, f3, f4, f5, f6, f7, f8, f9, f10⟩, k0, k1, y0, y1, z0, z1⟩)) :=
              Lib.hid (fun W J0 J1 JL N0 N1 NL c0' c1' cl' a b c d e f => hM ▸ moved_1 P0 P1 P2 P3 P4 P5 P6 P7 P8 P9 P10 Q0 Q1 Q2 Q3 Q4 Q5 Q6 Q7 Q8 Q9 Q10 r0 r1 r2 r3 r4 r5 r6 r7 r8 r9 r10 M0 M1 J0 J1 JL N0 N1 NL c0' c1' cl' O0 O1 L0 L1 rl W a b c d e f)
            have HZ : Hid (L0.length + rl.length ≤ 1000) := Lib.hid (by have : L0.length + L1.length ≤ k + 1 := hsz; omega)
            have he : (b : Int) % 2 = 1 := by omega
            have h47 : ((b : Int) / 2 % 8 == 0) = false := by rw [beq_eq_false_iff_ne]; omega
            have h48 : ((b : Int) / 2 % 8 == 1) = true := by rw [beq_iff_eq]; omega
            have HS2 := Lib.hid hs2; have HV2 := Lib.hid hv2
            clear hT hM hs2 hv2 e hk hi hsz hb0
            go_wp2_with (first | (go_at_call 7; (with_reducible refine (HT.out _).mono ?_); rintro e w3 ⟨v3, rfl, hs3, hb3⟩; obtain ⟨A3, d3, rfl, hw3, hd3⟩ := Way.of_segs hs3; have G3 := Lib.hid (blockK hb3 HH.out); have Hb3 := Lib.hid hb3; have Hw3 := Lib.hid hw3; clear hs3 hb3 hw3 hd3; dsimp only [C.v]) | (refine wpList_load_row rfl 34 (.tmp 9) rfl w1.heap.size rfl 34 #[.int .i64 P0, .int .i64 P1, .int .u32 P2, .int .u32 P3, .int .u32 P4, .int .u32 P5, .int .i64 P6, .int .i64 P7, .int .u8 P8, .int .i64 P9, .int .i64 P10, .int .i64 Q0, .int .i64 Q1, .int .u32 Q2, .int .u32 Q3, .int .u32 Q4, .int .u32 Q5, .int .i64 Q6, .int .i64 Q7, .int .u8 Q8, .int .i64 Q9, .int .i64 Q10, .slice D0 L0.length C0, .slice D1 L1.length C1, .bool O0, .bool O1, .int .i64 M0, .int .i64 M1] (0, 0) _ (heap_alloc G3.out _) Try.underlying34 rfl (by kernel_rfl) ?_) | (go_at_call 8; refine (HM.out _ _ _ _ _ _ _ _ _ _ ?w0 ?w1 ?wl ?z0 ?z1 ?zz).mono ?_; (case w0 => exact HW0'.out.below (bchain2 Hb3.out ((Below.refl _ _).alloc (Nat.le_refl _) _))); (case w1 => exact HW1'.out.below (bchain2 Hb3.out ((Below.refl _ _).alloc (Nat.le_refl _) _))); (case wl => exact Hw3.out.keep (KeepH.alloc (KeepH.refl _) _)); (case z0 => exact HZ0'.out); (case z1 => exact HZ1'.out); (case zz => exact HZ.out); rintro e4 w4 ⟨B0, B1, d0, d1, rfl, hw0, hw1, hz0, hz1, hb4⟩; have G4 := Lib.hid (blockK hb4 (heap_alloc G3.out _)); have L4 := Lib.hid (bchain2 HBEL.out (bchain2 Hb3.out (bchain2 ((Below.refl _ _).alloc (Nat.le_refl _) _) hb4))); have Hw0 := Lib.hid hw0; have Hw1 := Lib.hid hw1; have Hz0 := Lib.hid hz0; have Hz1 := Lib.hid hz1; clear hw0 hw1 hz0 hz1 hb4) | (refine wpList_store_row rfl 34 (.tmp 9) (.tmp 88) rfl w1.heap.size #[.int .i64 e0, .int .i64 e1, .int .u32 e2, .int .u32 e3, .int .u32 e4, .int .u32 e5, .int .i64 e6, .int .i64 e7, .int .u8 e8, .int .i64 e9, .int .i64 e10, .int .i64 f0, .int .i64 f1, .int .u32 f2, .int .u32 f3, .int .u32 f4, .int .u32 f5, .int .i64 f6, .int .i64 f7, .int .u8 f8, .int .i64 f9, .int .i64 f10, .slice B0 k0.length d0, .slice B1 k1.length d1, .bool y0, .bool y1, .int .i64 z0, .int .i64 z1] rfl rfl 34 #[.int .i64 P0, .int .i64 P1, .int .u32 P2, .int .u32 P3, .int .u32 P4, .int .u32 P5, .int .i64 P6, .int .i64 P7, .int .u8 P8, .int .i64 P9, .int .i64 P10, .int .i64 Q0, .int .i64 Q1, .int .u32 Q2, .int .u32 Q3, .int .u32 Q4, .int .u32 Q5, .int .i64 Q6, .int .i64 Q7, .int .u8 Q8, .int .i64 Q9, .int .i64 Q10, .slice D0 L0.length C0, .slice D1 L1.length C1, .bool O0, .bool O1, .int .i64 M0, .int .i64 M1] G4.out (pair_size _ _ _ _ _ _ _ _ _ _ _ _ _ _ _ _ _ _ _ _ _ _ _ _ _ _ _ _ _ _ _ _ ) rfl (pair_one _ _ _ _ _ _ _ _ _ _ _ _ _ _ _ _ _ _ _ _ _ _ _ _ _ _ _ _ _ _ _ _ ) ?_))
            go_meet
            case rel =>
              exact ⟨⟨⟨e0, e1, e2, e3, e4, e5, e6, e7, e8, e9, e10⟩, ⟨f0, f1, f2, f3, f4, f5, f6, f7, f8, f9, f10⟩, k0, k1, y0, y1, z0, z1⟩, R', B0, B1, d0, d1, HV2.out, HS2.out, setRow_heap _ _ #[.int .i64 P0, .int .i64 P1, .int .u32 P2, .int .u32 P3, .int .u32 P4, .int .u32 P5, .int .i64 P6, .int .i64 P7, .int .u8 P8, .int .i64 P9, .int .i64 P10, .int .i64 Q0, .int .i64 Q1, .int .u32 Q2, .int .u32 Q3, .int .u32 Q4, .int .u32 Q5, .int .i64 Q6, .int .i64 Q7, .int .u8 Q8, .int .i64 Q9, .int .i64 Q10, .slice D0 L0.length C0, .slice D1 L1.length C1, .bool O0, .bool O1, .int .i64 M0, .int .i64 M1] _ 34 (0, 0) G4.out, Hw0.out.keep (KeepH.setRow (KeepH.refl _) G4.out (by decide) _), Hw1.out.keep (KeepH.setRow (KeepH.refl _) G4.out (by decide) _), Hz0.out, Hz1.out, below_setRow L4.out L2.out.2 _⟩
          · have hk0 := hk; clear hk
            obtain ⟨⟨⟨e0, e1, e2, e3, e4, e5, e6, e7, e8, e9, e10⟩, ⟨f0, f1, f2, f3, f4, f5, f6, f7, f8, f9, f10⟩, k0, k1, y0, y1, z0, z1⟩, hM⟩ : ∃ r, comev ⟨⟨P0, P1, P2, P3, P4, P5, P6, P7, P8, P9, P10⟩, ⟨Q0, Q1, Q2, Q3, Q4, Q5, Q6, Q7, Q8, Q9, Q10⟩, L0, L1, O0, O1, M0, M1⟩ 1 ((b / 16 % 4 : Nat) : Int) = r := ⟨_, rfl⟩
            have e : stepv ⟨⟨P0, P1, P2, P3, P4, P5, P6, P7, P8, P9, P10⟩, ⟨Q0, Q1, Q2, Q3, Q4, Q5, Q6, Q7, Q8, Q9, Q10⟩, L0, L1, O0, O1, M0, M1⟩ b = ⟨⟨e0, e1, e2, e3, e4, e5, e6, e7, e8, e9, e10⟩, ⟨f0, f1, f2, f3, f4, f5, f6, f7, f8, f9, f10⟩, k0, k1, y0, y1, z0, z1⟩ := by
              rw [← hM]; unfold stepv; rw [if_neg hk0, if_neg hk1, hi]
            rw [e] at hs2 hv2
            have hu : ((b / 16 % 4 : Nat) : Int) = (b : Int) / 16 % 4 := by omega
            rw [hu] at hM
            have HM : Hid (∀ (W : World) (J0 J1 : Option Addr) (N0 N1 c0' c1' : Nat), Way W J0 N0 L0 → Way W J1 N1 L1 → N0 ≤ c0' → N1 ≤ c1' → N0 + 1 ≤ 1000 → Calls Try.prog 9 #[(Value.agg #[.int .i64 P0, .int .i64 P1, .int .u32 P2, .int .u32 P3, .int .u32 P4, .int .u32 P5, .int .i64 P6, .int .i64 P7, .int .u8 P8, .int .i64 P9, .int .i64 P10, .int .i64 Q0, .int .i64 Q1, .int .u32 Q2, .int .u32 Q3, .int .u32 Q4, .int .u32 Q5, .int .i64 Q6, .int .i64 Q7, .int .u8 Q8, .int .i64 Q9, .int .i64 Q10, .slice J0 N0 c0', .slice J1 N1 c1', .bool O0, .bool O1, .int .i64 M0, .int .i64 M1]), .int .i64 1, .int .i64 ((b : Int) / 16 % 4)] W (PPost W ⟨⟨e0, e1, e2, e3, e4, e5, e6, e7, e8, e9, e10⟩, ⟨f0, f1, f2, f3, f4, f5, f6, f7, f8, f9, f10⟩, k0, k1, y0, y1, z0, z1⟩)) :=
              Lib.hid (fun W J0 J1 N0 N1 c0' c1' a b' c d e => hM ▸ come_1 P0 P1 P2 P3 P4 P5 P6 P7 P8 P9 P10 Q0 Q1 Q2 Q3 Q4 Q5 Q6 Q7 Q8 Q9 Q10 _ M0 M1 J0 J1 N0 N1 c0' c1' O0 O1 L0 L1 W a b' c d e)
            have HZ : Hid (L0.length + 1 ≤ 1000) := Lib.hid (by have : L0.length + L1.length ≤ k + 1 := hsz; omega)
            have he : (b : Int) % 2 = 1 := by omega
            have h47 : ((b : Int) / 2 % 8 == 0) = false := by rw [beq_eq_false_iff_ne]; omega
            have h48 : ((b : Int) / 2 % 8 == 1) = false := by rw [beq_eq_false_iff_ne]; omega
            have HS2 := Lib.hid hs2; have HV2 := Lib.hid hv2
            clear hM hs2 hv2 e hk0 hk1 hi hsz hu
            go_wp2_with fail
            refine wp_region_still_tail 9 (by kernel_rfl) (by kernel_rfl) ?_
            simp only [List.take_succ_cons, List.take_zero, List.drop_succ_cons, List.drop_zero]
            refine wpStill_load_row rfl 34 (.tmp 9) rfl w1.heap.size rfl 34 #[.int .i64 P0, .int .i64 P1, .int .u32 P2, .int .u32 P3, .int .u32 P4, .int .u32 P5, .int .i64 P6, .int .i64 P7, .int .u8 P8, .int .i64 P9, .int .i64 P10, .int .i64 Q0, .int .i64 Q1, .int .u32 Q2, .int .u32 Q3, .int .u32 Q4, .int .u32 Q5, .int .i64 Q6, .int .i64 Q7, .int .u8 Q8, .int .i64 Q9, .int .i64 Q10, .slice D0 L0.length C0, .slice D1 L1.length C1, .bool O0, .bool O1, .int .i64 M0, .int .i64 M1] (0, 0) _ HH.out Try.underlying34 rfl (by kernel_rfl) ?_
            repeat still_step
            refine wpStill_nil ?_
            go_wp2_with (first | (go_at_call 9; refine (HM.out _ _ _ _ _ _ _ ?w0 ?w1 ?z0 ?z1 ?zz).mono ?_; (case w0 => exact HW0'.out.below (Below.refl _ _).drew); (case w1 => exact HW1'.out.below (Below.refl _ _).drew); (case z0 => exact HZ0'.out); (case z1 => exact HZ1'.out); (case zz => exact HZ.out); rintro e4 w4 ⟨B0, B1, d0, d1, rfl, hw0, hw1, hz0, hz1, hb4⟩; have G4 := Lib.hid (blockK hb4 (heap_drew HH.out)); have L4 := Lib.hid (bchain2 HBEL.out.drew hb4); have Hw0 := Lib.hid hw0; have Hw1 := Lib.hid hw1; have Hz0 := Lib.hid hz0; have Hz1 := Lib.hid hz1; clear hw0 hw1 hz0 hz1 hb4) | (refine wpList_store_row rfl 34 (.tmp 9) (.tmp 57) rfl w1.heap.size #[.int .i64 e0, .int .i64 e1, .int .u32 e2, .int .u32 e3, .int .u32 e4, .int .u32 e5, .int .i64 e6, .int .i64 e7, .int .u8 e8, .int .i64 e9, .int .i64 e10, .int .i64 f0, .int .i64 f1, .int .u32 f2, .int .u32 f3, .int .u32 f4, .int .u32 f5, .int .i64 f6, .int .i64 f7, .int .u8 f8, .int .i64 f9, .int .i64 f10, .slice B0 k0.length d0, .slice B1 k1.length d1, .bool y0, .bool y1, .int .i64 z0, .int .i64 z1] rfl rfl 34 #[.int .i64 P0, .int .i64 P1, .int .u32 P2, .int .u32 P3, .int .u32 P4, .int .u32 P5, .int .i64 P6, .int .i64 P7, .int .u8 P8, .int .i64 P9, .int .i64 P10, .int .i64 Q0, .int .i64 Q1, .int .u32 Q2, .int .u32 Q3, .int .u32 Q4, .int .u32 Q5, .int .i64 Q6, .int .i64 Q7, .int .u8 Q8, .int .i64 Q9, .int .i64 Q10, .slice D0 L0.length C0, .slice D1 L1.length C1, .bool O0, .bool O1, .int .i64 M0, .int .i64 M1] G4.out (pair_size _ _ _ _ _ _ _ _ _ _ _ _ _ _ _ _ _ _ _ _ _ _ _ _ _ _ _ _ _ _ _ _ ) rfl (pair_one _ _ _ _ _ _ _ _ _ _ _ _ _ _ _ _ _ _ _ _ _ _ _ _ _ _ _ _ _ _ _ _ ) ?_))
            go_meet
            case rel =>
              exact ⟨⟨⟨e0, e1, e2, e3, e4, e5, e6, e7, e8, e9, e10⟩, ⟨f0, f1, f2, f3, f4, f5, f6, f7, f8, f9, f10⟩, k0, k1, y0, y1, z0, z1⟩, R', B0, B1, d0, d1, HV2.out, HS2.out, setRow_heap _ _ #[.int .i64 P0, .int .i64 P1, .int .u32 P2, .int .u32 P3, .int .u32 P4, .int .u32 P5, .int .i64 P6, .int .i64 P7, .int .u8 P8, .int .i64 P9, .int .i64 P10, .int .i64 Q0, .int .i64 Q1, .int .u32 Q2, .int .u32 Q3, .int .u32 Q4, .int .u32 Q5, .int .i64 Q6, .int .i64 Q7, .int .u8 Q8, .int .i64 Q9, .int .i64 Q10, .slice D0 L0.length C0, .slice D1 L1.length C1, .bool O0, .bool O1, .int .i64 M0, .int .i64 M1] _ 34 (0, 0) G4.out, Hw0.out.keep (KeepH.setRow (KeepH.refl _) G4.out (by decide) _), Hw1.out.keep (KeepH.setRow (KeepH.refl _) G4.out (by decide) _), Hz0.out, Hz1.out, below_setRow L4.out L2.out.2 _⟩
      case rest =>
        clear hcell
        obtain ⟨p, R, D0, D1, C0, C1, hv, hsz, hh, hw0, hw1, hz0, hz1, hbel⟩ := hcut
        obtain ⟨⟨P0, P1, P2, P3, P4, P5, P6, P7, P8, P9, P10⟩, ⟨Q0, Q1, Q2, Q3, Q4, Q5, Q6, Q7, Q8, Q9, Q10⟩, L0, L1, O0, O1, M0, M1⟩ := p
        dsimp only at hh hw0 hw1 hz0 hz1
        have hlaw := hv.law
        dsimp only at hlaw
        obtain ⟨r9, f9⟩ := blk_cells hh
        have HH := Lib.hid hh; have HW0' := Lib.hid hw0; have HW1' := Lib.hid hw1; have HZ0' := Lib.hid hz0; have HZ1' := Lib.hid hz1; have HBEL := Lib.hid hbel; have HV := Lib.hid hv; have HSZ := Lib.hid hsz
        have HST : Hid (AgreeSt w w1.heap.size (x0 % 3) (x1 % 3) (k + 1) wc) := Lib.hid ⟨_, R, D0, D1, C0, C1, hv, hsz, hh, hw0, hw1, hz0, hz1, hbel⟩
        clear hv hh hw0 hw1 hz0 hz1 hbel ST hsz
        cases O0
        · clear hlaw
          go_wp2_with fail
          go_roundg (80 - (k + 1))
          case measure => have := HG.out; omega
          case rel => exact ⟨k + 1, by omega, by omega, rfl, by go_num, HST.out⟩
        cases O1
        · clear hlaw
          go_wp2_with fail
          go_roundg (80 - (k + 1))
          case measure => have := HG.out; omega
          case rel => exact ⟨k + 1, by omega, by omega, rfl, by go_num, HST.out⟩
        obtain ⟨hl1, hl2⟩ := hlaw rfl rfl
        clear hlaw
        subst hl1
        have HL2 := Lib.hid hl2; clear hl2
        go_wp2_with fail
        all_goals first | exact (agree_bad1 HL2.out (by assumption) (by assumption)).elim | exact (agree_bad2 HL2.out (by assumption) (by assumption)).elim | skip
        all_goals
          go_roundg (80 - (k + 1))
          case measure => have := HG.out; omega
          case rel => exact ⟨k + 1, by omega, by omega, rfl, by go_num, HST.out⟩
    · obtain ⟨p, R, D0, D1, C0, C1, hv, hsz, hh, hw0, hw1, hz0, hz1, hbel⟩ := ST.out
      obtain ⟨⟨P0, P1, P2, P3, P4, P5, P6, P7, P8, P9, P10⟩, ⟨Q0, Q1, Q2, Q3, Q4, Q5, Q6, Q7, Q8, Q9, Q10⟩, L0, L1, O0, O1, M0, M1⟩ := p
      dsimp only at hh hw0 hw1 hz0 hz1
      have hst := hv.e0.2.1
      dsimp only at hst
      have hP9 : (P9 == 0) = false := by rw [beq_eq_false_iff_ne]; omega
      have hP9' : (P9 != 0) = true := by rw [bne_iff_ne]; omega
      obtain ⟨r9, f9⟩ := blk_cells hh
      have HBEL := Lib.hid hbel
      clear hv hh hw0 hw1 hz0 hz1 hbel ST hsz hst
      by_cases hkn : k < n
      · have hk80 : ¬ k < 80 := fun h => hlt ⟨hkn, h⟩
        obtain rfl : k = 80 := by omega
        clear hlt hk80
        go_wp2_with (go_at_call 10; (with_reducible refine (works_calls _).mono ?_); rintro e w5 ⟨rfl, hb5⟩; have HB5 := Lib.hid hb5; clear hb5)
        go_ret
        exact ⟨rfl, bchain2 HBEL.out HB5.out⟩
      · obtain rfl : k = n := by omega
        clear hlt hkn
        go_wp2_with (go_at_call 10; (with_reducible refine (works_calls _).mono ?_); rintro e w5 ⟨rfl, hb5⟩; have HB5 := Lib.hid hb5; clear hb5)
        go_ret
        exact ⟨rfl, bchain2 HBEL.out HB5.out⟩
end Go.Proofs.Ytbklomnlhpbhnaa
