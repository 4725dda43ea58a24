import Derived.Test.YtbklomnlhpbhnaaA10
import Derived.Maps.AppendAt
import Derived.Deep.AppendLies
import Derived.RegionTactic
import Derived.OwnWalk
import Derived.Laws.OwnMore
import Derived.Laws.Rows
import Derived.Deep.Draws
import Derived.Deep.MidRow
namespace Go.Proofs.Ytbklomnlhpbhnaa
open Go.RowKit
set_option linter.unusedSimpArgs false
set_option linter.unusedVariables false

/-! Words laid after the guide's page of words to copy (a slice that reads as a list; append onto a row of the call's own). -/
theorem block_of_add (a : Addr) (n : Nat) : (a.add n).block = a.block := by unfold Addr.add; split <;> rfl
theorem add_of_add (a : Addr) (i j : Nat) : (a.add i).add j = a.add (i + j) := by
  unfold Addr.add
  by_cases hi : i = 0 <;> by_cases hj : j = 0 <;> simp [hi, hj, Nat.add_assoc]

def Reads (w : World) (B size : Nat) (A : Option Addr) (n : Nat) (xs : List Value) : Prop :=
  xs.length = n * size ∧ (0 < n → ∃ ad, A = some ad ∧ ad.block < B ∧ ∀ j u, xs[j]? = some u → w.cell? (ad.add j) = some u)

section
variable {w w' : World} {B B' size n : Nat} {A : Option Addr} {xs : List Value}
theorem Reads.none_ : Reads w B size A 0 [] := ⟨by simp, fun h => absurd h (by omega)⟩
theorem Reads.at_ {k : Nat} (h : Reads w B 1 A n xs) (hk : k < n) : ∃ ad u, A = some ad ∧ ad.block < B ∧ xs[k]? = some u ∧ w.cell? (ad.add k) = some u := by
  obtain ⟨ad, e, hb, hc⟩ := h.2 (by omega)
  have hl : k < xs.length := by have := h.1; omega
  exact ⟨ad, xs[k], e, hb, List.getElem?_eq_getElem hl, hc k _ (List.getElem?_eq_getElem hl)⟩
theorem Reads.keep (h : Reads w B size A n xs) (hk : ∀ p : Addr, p.block < B → w'.cell? p = w.cell? p) : Reads w' B size A n xs :=
  ⟨h.1, fun hn => by
    obtain ⟨ad, e, hb, hc⟩ := h.2 hn
    exact ⟨ad, e, hb, fun j u hu => (hk _ (by rw [block_of_add]; exact hb)).trans (hc j u hu)⟩⟩
theorem Reads.more (h : Reads w B size A n xs) (hB : B ≤ B') : Reads w B' size A n xs :=
  ⟨h.1, fun hn => by
    obtain ⟨ad, e, hb, hc⟩ := h.2 hn
    exact ⟨ad, e, by omega, hc⟩⟩
theorem Reads.below (h : Reads w B size A n xs) (hb : Below B w w') : Reads w' B size A n xs := h.keep fun _ hp => hb.cell hp
theorem Reads.drew (h : Reads w B size A n xs) : Reads w.drew B size A n xs := h
theorem Reads.drewN (h : Reads w B size A n xs) (k : Nat) : Reads (w.drewN k) B size A n xs := h
theorem Reads.alloc (h : Reads w B size A n xs) (hB : B ≤ w.heap.size) (o : Obj) : Reads (w.alloc o) B size A n xs := h.keep fun p hp => World.cell?_alloc_lt w o p (by omega)
theorem Reads.setCell (h : Reads w B size A n xs) {p : Addr} (hB : B ≤ p.block) (u : Value) : Reads (w.setCell p u) B size A n xs :=
  h.keep fun q hq => World.cell?_setCell_other w p q u (fun e => by subst e; omega)
theorem Reads.grown (h : Reads w B size A n xs) {row : Option Nat} (hg : w.grownBy w' row) (hB : B ≤ w.heap.size) (hr : ∀ g, row = some g → B ≤ g) : Reads w' B size A n xs :=
  h.keep fun p hp => World.cell?_of_block (hg.block p.block (by omega) (fun e => by have := hr _ e.symm; omega))
theorem Reads.cut (h : Reads w B size A n xs) {k cap : Nat} (hk : k ≤ n) (hc : n ≤ cap) :
    Reads w B size (if cap = k then A else A.map (·.add (k * size))) (n - k) (xs.drop (k * size)) := by
  refine ⟨by rw [List.length_drop, h.1, Nat.sub_mul], fun hn => ?_⟩
  obtain ⟨ad, rfl, hb, hcell⟩ := h.2 (by omega)
  rw [if_neg (by omega)]
  refine ⟨ad.add (k * size), rfl, by rw [block_of_add]; exact hb, fun j u hu => ?_⟩
  rw [add_of_add]
  exact hcell _ u (by rw [← hu, List.getElem?_drop])
theorem Reads.of_own {base : Nat} {e : TypeId} {c : Nat} (h : w.ownsRow base e size (.slice A n c) n xs) : Reads w w.heap.size size A n xs := by
  refine ⟨h.1, fun hn => ?_⟩
  obtain ⟨g, cap, hv, _, hlt⟩ := h.form hn
  have hA : A = some ⟨g, 0, none⟩ := by injection hv
  subst hA
  exact ⟨_, rfl, hlt, h.cells (g := g) rfl⟩
end

section
variable {P : Program} (w : World)

theorem run_append_of_nil (base : Nat) (t ty e : TypeId) (i : TypeInfo) (size : Nat) (ht : P.underlying t = some (.slice e)) (hi : P.info? e = some i)
    (v : Value) (n : Nat) (xs : List Value) (hown : w.ownsRow base e size v n xs) (c : Nat) : (Builtin.append_ #[t, t] ty #[v, .slice none 0 c]).run P w = .ok v w := by
  rcases hown.2 with ⟨rfl, rfl⟩ | ⟨g, cap, cur, rfl, _, _, hnc, _⟩
  · simp [Builtin.append_, run_underlying ht, sizeOf, typeInfo, hi, Builtin.lenOf, Builtin.firstCells]
  · simp [Builtin.append_, run_underlying ht, sizeOf, typeInfo, hi, Builtin.lenOf, Builtin.firstCells, hnc, storeCells]

theorem run_append_any (base : Nat) (t ty e : TypeId) (i : TypeInfo) (z : Value) (size bytes : Nat) (ht : P.underlying t = some (.slice e)) (hi : P.info? e = some i) (hz : i.zero = some z)
    (hsize : i.size = size) (hby : i.bytes = bytes) (hzs : z.cells.size = size) (hsz : 0 < size)
    (v : Value) (n : Nat) (xs : List Value) (hown : w.ownsRow base e size v n xs)
    (B : Nat) (A : Option Addr) (m c : Nat) (news : List Value) (hr : Reads w B size A m news) (h1 : ∀ u ∈ news, u.oneCell' = true)
    (h63 : n + m ≤ maxLen) (hbytes : (n + m) * bytes ≤ 140737488355328) (hbase : base ≤ w.heap.size) :
    ∃ v' w', (Builtin.append_ #[t, t] ty #[v, .slice A m c]).run P w = .ok v' w' ∧ w'.ownsRow base e size v' (n + m) (xs ++ news) ∧ w.grownBy w' v.ownBlock ∧
      (v'.ownBlock = v.ownBlock ∨ v'.ownBlock = some w.heap.size) := by
  rcases A with _ | ad
  · have hm : m = 0 := by
      rcases Nat.eq_zero_or_pos m with h0 | h0
      · exact h0
      · obtain ⟨ad, h, _⟩ := hr.2 h0
        cases h
    subst hm
    have hn : news = [] := List.eq_nil_of_length_eq_zero (by simpa using hr.1)
    subst hn
    exact ⟨v, w, run_append_of_nil w base t ty e i size ht hi v n xs hown c, by simpa using hown, World.grownBy.refl w _, .inl rfl⟩
  · have hcells : ∀ j u, news[j]? = some u → w.cell? (ad.add j) = some u := by
      intro j u hu
      rcases Nat.eq_zero_or_pos m with h0 | h0
      · subst h0
        have hn : news = [] := List.eq_nil_of_length_eq_zero (by simpa using hr.1)
        subst hn
        simp at hu
      · obtain ⟨ad', h, _, hc⟩ := hr.2 h0
        injection h with h
        subst h
        exact hc j u hu
    obtain ⟨v', w', hrun, h2, h3, _, h5⟩ := run_append_own_at (P := P) w base t ty e i z size bytes ht hi hz hsize hby hzs hsz v n xs hown ad m c news hr.1 hcells h1 h63 hbytes hbase
    exact ⟨v', w', hrun, h2, h3, h5⟩

theorem wp_append_any {o : Oper} {a : Act} {K : Act → World → Prop} {Q : Exit → Act → World → Prop} (s x : Operand) (t : TypeId)
    (ho : o.op = .call { callee := .builtin .append, args := #[s, x], argTypes := #[t, t] })
    (base : Nat) (e : TypeId) (i : TypeInfo) (z : Value) (size bytes : Nat) (ht : P.underlying t = some (.slice e)) (hi : P.info? e = some i) (hz : i.zero = some z)
    (hsize : i.size = size) (hby : i.bytes = bytes) (hzs : z.cells.size = size) (hsz : 0 < size)
    (v : Value) (n : Nat) (xs : List Value) (hs : a.eval s = v) (hown : w.ownsRow base e size v n xs)
    (B : Nat) (A : Option Addr) (m c : Nat) (news : List Value) (hx : a.eval x = .slice A m c) (hr : Reads w B size A m news) (h1 : ∀ u ∈ news, u.oneCell' = true)
    (h63 : n + m ≤ maxLen) (hbytes : (n + m) * bytes ≤ 140737488355328) (hbase : base ≤ w.heap.size)
    (h : ∀ v' w', w'.ownsRow base e size v' (n + m) (xs ++ news) → w.grownBy w' v.ownBlock → (v'.ownBlock = v.ownBlock ∨ v'.ownBlock = some w.heap.size) → K (a.put o.dst v') w') : o.wp P a w K Q := by
  obtain ⟨v', w', hrun, h2, h3, h4⟩ := run_append_any (P := P) w base t o.type e i z size bytes ht hi hz hsize hby hzs hsz v n xs hown B A m c news hr h1 h63 hbytes hbase
  unfold Oper.wp execOp
  simp only [ho, resolve, invoke, builtin, Sem.run_bind, Sem.run_pure, Result.andThen_ok, List.map_toArray, List.map_cons, List.map_nil, hs, hx, hrun]
  exact h v' w' h2 h3 h4

theorem wpList_append_any {ops : Array Oper} {rest : List Oper} {o : Oper} {a : Act} {Q : Exit → Act → World → Prop} (hgd : o.guard = none) (s x : Operand) (t : TypeId)
    (ho : o.op = .call { callee := .builtin .append, args := #[s, x], argTypes := #[t, t] })
    (base : Nat) (e : TypeId) (i : TypeInfo) (z : Value) (size bytes : Nat) (ht : P.underlying t = some (.slice e)) (hi : P.info? e = some i) (hz : i.zero = some z)
    (hsize : i.size = size) (hby : i.bytes = bytes) (hzs : z.cells.size = size) (hsz : 0 < size)
    (v : Value) (n : Nat) (xs : List Value) (hs : a.eval s = v) (hown : w.ownsRow base e size v n xs)
    (B : Nat) (A : Option Addr) (m c : Nat) (news : List Value) (hx : a.eval x = .slice A m c) (hr : Reads w B size A m news) (h1 : ∀ u ∈ news, u.oneCell' = true)
    (h63 : n + m ≤ maxLen) (hbytes : (n + m) * bytes ≤ 140737488355328) (hbase : base ≤ w.heap.size)
    (h : ∀ v' w', w'.ownsRow base e size v' (n + m) (xs ++ news) → w.grownBy w' v.ownBlock → (v'.ownBlock = v.ownBlock ∨ v'.ownBlock = some w.heap.size) → wpList P ops Q rest (a.put o.dst v') w') : wpList P ops Q (o :: rest) a w :=
  wpList_plain hgd fun _ hK => wp_append_any w s x t ho base e i z size bytes ht hi hz hsize hby hzs hsz v n xs hs hown B A m c news hx hr h1 h63 hbytes hbase fun v' w' h2 h3 h4 => hK _ _ (h v' w' h2 h3 h4)

end

theorem own_form {w : World} {B e size n : Nat} {v : Value} {xs : List Value} (h : w.ownsRow B e size v n xs) : ∃ A c, v = .slice A n c ∧ n ≤ c := by
  rcases h.2 with ⟨rfl, rfl⟩ | ⟨g, cap, cur, rfl, hB, hh, hn, r⟩
  · exact ⟨none, 0, rfl, Nat.le_refl _⟩
  · exact ⟨_, cap, rfl, hn⟩
theorem wpList_append_form {P : Program} (w : World) {ops : Array Oper} {rest : List Oper} {o : Oper} {a : Act} {Q : Exit → Act → World → Prop} (hgd : o.guard = none) (s x : Operand) (t : TypeId)
    (ho : o.op = .call { callee := .builtin .append, args := #[s, x], argTypes := #[t, t] })
    (base : Nat) (e : TypeId) (i : TypeInfo) (z : Value) (size bytes : Nat) (ht : P.underlying t = some (.slice e)) (hi : P.info? e = some i) (hz : i.zero = some z)
    (hsize : i.size = size) (hby : i.bytes = bytes) (hzs : z.cells.size = size) (hsz : 0 < size)
    (v : Value) (n : Nat) (xs : List Value) (hs : a.eval s = v) (hown : w.ownsRow base e size v n xs)
    (B : Nat) (A : Option Addr) (m c : Nat) (news : List Value) (hx : a.eval x = .slice A m c) (hr : Reads w B size A m news) (h1 : ∀ u ∈ news, u.oneCell' = true)
    (k : Nat) (hk : n + m = k) (ys : List Value) (hys : xs ++ news = ys) (h63 : k ≤ maxLen) (hbytes : k * bytes ≤ 140737488355328) (hbase : base ≤ w.heap.size)
    (h : ∀ A' c' w', w'.ownsRow base e size (.slice A' k c') k ys → w.grownBy w' v.ownBlock → (Value.ownBlock (.slice A' k c') = v.ownBlock ∨ Value.ownBlock (.slice A' k c') = some w.heap.size) → k ≤ c' → wpList P ops Q rest (a.put o.dst (.slice A' k c')) w') : wpList P ops Q (o :: rest) a w := by
  subst hk; subst hys
  exact wpList_append_any w hgd s x t ho base e i z size bytes ht hi hz hsize hby hzs hsz v n xs hs hown B A m c news hx hr h1 h63 hbytes hbase fun v' w' h1 h2 h3 => by
    obtain ⟨A', c', rfl, hc⟩ := own_form h1
    exact h A' c' w' h1 h2 h3 hc
theorem Try.info52 : (Try.prog.info? 52).map (fun i => (i.zero, i.size, i.bytes)) = some (some (.agg #[.int .u16 0, .int .u16 0, .int .u32 0, .int .u32 0, .int .u8 0, .int .u8 0, .int .u8 0, .int .u16 0, .int .u16 0, .int .u16 0]), 10, 24) := by kernel_rfl
theorem H.cells_length (x : H) : x.cells.length = 10 := rfl
theorem H.flat_length (l : List H) : (l.flatMap H.cells).length = l.length * 10 := by
  induction l with
  | nil => rfl
  | cons x l ih => simp only [List.flatMap_cons, List.length_append, H.cells_length, ih, List.length_cons]; omega
theorem H.one (l : List H) : ∀ u ∈ l.flatMap H.cells, u.oneCell' = true := by
  intro u hu
  obtain ⟨x, _, hx⟩ := List.mem_flatMap.1 hu
  simp only [H.cells, List.mem_cons, List.not_mem_nil, or_false] at hx
  rcases hx with rfl | rfl | rfl | rfl | rfl | rfl | rfl | rfl | rfl | rfl <;> rfl
/-- Blocks of segments stay. -/
def KeepH (w W : World) : Prop := ∀ (g : Nat) (cur : Array Value), w.heap[g]? = some (Obj.cells cur 52 (0, 0)) → W.heap[g]? = some (Obj.cells cur 52 (0, 0))
/-- A slice that reads as a list of segments: it lies in a block of segments. -/
def Way (w : World) (A : Option Addr) (n : Nat) (l : List H) : Prop :=
  l.length = n ∧ (0 < n → ∃ g o cur, A = some ⟨g, o, none⟩ ∧ w.heap[g]? = some (.cells cur 52 (0, 0)) ∧ ∀ j u, (l.flatMap H.cells)[j]? = some u → cur[o + j]? = some u)
theorem Way.nil (w : World) : Way w none 0 [] := ⟨rfl, fun h => absurd h (by omega)⟩
theorem Way.keep {w W : World} {A : Option Addr} {n : Nat} {l : List H} (h : Way w A n l) (hk : KeepH w W) : Way W A n l :=
  ⟨h.1, fun hn => by obtain ⟨g, o, cur, hA, hg, hc⟩ := h.2 hn; exact ⟨g, o, cur, hA, hk g cur hg, hc⟩⟩
theorem Way.below {w W : World} {A : Option Addr} {n : Nat} {l : List H} (h : Way w A n l) (hb : Below w.heap.size w W) : Way W A n l :=
  h.keep fun g cur hg => (hb.block g (Array.getElem?_eq_some_iff.1 hg).1).trans hg
theorem Way.reads {w : World} {A : Option Addr} {n : Nat} {l : List H} (h : Way w A n l) : Reads w w.heap.size 10 A n (l.flatMap H.cells) := by
  refine ⟨by rw [H.flat_length, h.1], fun hn => ?_⟩
  obtain ⟨g, o, cur, rfl, hg, hc⟩ := h.2 hn
  refine ⟨_, rfl, (Array.getElem?_eq_some_iff.1 hg).1, fun j u hu => ?_⟩
  have e : (⟨g, o, none⟩ : Addr).add j = ⟨g, o + j, none⟩ := by unfold Addr.add; split <;> simp_all
  rw [e]
  simp [World.cell?, hg, hc j u hu]
theorem Way.of_own {w : World} {B n c : Nat} {A : Option Addr} {l : List H} (h : w.ownsRow B 52 10 (.slice A n c) n (l.flatMap H.cells)) : Way w A n l := by
  have hl : l.length = n := by have := h.1; rw [H.flat_length] at this; omega
  refine ⟨hl, fun hn => ?_⟩
  rcases h.2 with ⟨_, h0⟩ | ⟨g, cap, cur, hv, hB, hh, hc, _, hs, ht⟩
  · omega
  injection hv with hA
  subst hA
  refine ⟨g, 0, cur, rfl, hh, fun j u hu => ?_⟩
  have hj : j < n * 10 := by have := (List.getElem?_eq_some_iff.1 hu).1; rw [H.flat_length, hl] at this; exact this
  rw [← ht, List.getElem?_take, if_pos hj] at hu
  simpa using hu
theorem Way.of_segs {w : World} {B : Nat} {v : Value} {l : List H} (h : Segs w B v l) : ∃ A c, v = .slice A l.length c ∧ Way w A l.length l ∧ l.length ≤ c := by
  rcases h.2 with ⟨rfl, h0⟩ | ⟨g, cap, cur, rfl, hB, hh, hn, r⟩
  · have : l = [] := by
      cases l with
      | nil => rfl
      | cons x l => simp at h0
    subst this
    exact ⟨none, 0, rfl, Way.nil _, Nat.le_refl _⟩
  · exact ⟨_, cap, rfl, Way.of_own h, hn⟩
/-- Its first segment, and the others. -/
theorem Way.first {w : World} {A : Option Addr} {n : Nat} {x : H} {l : List H} (h : Way w A n (x :: l)) : ∃ g o, A = some ⟨g, o, none⟩ ∧ g < w.heap.size ∧ n = l.length + 1 ∧ w.rangeAt g o x.cells ∧ ∀ W : World, KeepH w W → Way W (some ⟨g, o + 10, none⟩) l.length l ∧ (l = [] → ∀ A, Way W A 0 []) := by
  obtain ⟨g, o, cur, rfl, hg, hc⟩ := h.2 (by have := h.1; simp only [List.length_cons] at this; omega)
  refine ⟨g, o, rfl, (Array.getElem?_eq_some_iff.1 hg).1, by have := h.1; simp only [List.length_cons] at this; omega, fun i u hu => ?_, fun W hk => ⟨⟨rfl, fun _ => ⟨g, o + 10, cur, rfl, hk g cur hg, fun j u hu => ?_⟩⟩, fun _ A => ⟨rfl, fun h0 => absurd h0 (by omega)⟩⟩⟩
  · have := hc i u (by rw [List.flatMap_cons, List.getElem?_append_left (List.getElem?_eq_some_iff.1 hu).1, hu])
    simp [World.cell?, hg, this]
  · have := hc (10 + j) u (by rw [List.flatMap_cons, List.getElem?_append_right (by rw [H.cells_length]; omega), H.cells_length, Nat.add_sub_cancel_left, hu])
    rw [Nat.add_assoc]; exact this
/-- Two ends, and what is on its way to each, as plain data. -/
structure Pr where
  x0 : C
  x1 : C
  q0 : List H
  q1 : List H
  o0 : Bool
  o1 : Bool
  m0 : Int
  m1 : Int

@[reducible] def Pr.v (p : Pr) (v0 v1 : Value) : Value := (Value.agg #[.int .i64 p.x0.st, .int .i64 p.x0.want, .int .u32 p.x0.iss, .int .u32 p.x0.una, .int .u32 p.x0.nxt, .int .u32 p.x0.rcv, .int .i64 p.x0.mode, .int .i64 p.x0.code, .int .u8 p.x0.reply, .int .i64 p.x0.start, .int .i64 p.x0.tries, .int .i64 p.x1.st, .int .i64 p.x1.want, .int .u32 p.x1.iss, .int .u32 p.x1.una, .int .u32 p.x1.nxt, .int .u32 p.x1.rcv, .int .i64 p.x1.mode, .int .i64 p.x1.code, .int .u8 p.x1.reply, .int .i64 p.x1.start, .int .i64 p.x1.tries, v0, v1, .bool p.o0, .bool p.o1, .int .i64 p.m0, .int .i64 p.m1])
def moved (p : Pr) (i : Nat) (c : C) (l : List H) : Pr :=
  if i = 0 then ⟨c, p.x1, p.q0, p.q1 ++ l, p.o0 || c.st == 4, p.o1, if c.st = 4 ∧ p.o0 = false then c.mode else p.m0, p.m1⟩
  else ⟨p.x0, c, p.q0 ++ l, p.q1, p.o0, p.o1 || c.st == 4, p.m0, if c.st = 4 ∧ p.o1 = false then c.mode else p.m1⟩
/-- What a call that hands back a pair comes to. -/
def PPost (w : World) (p : Pr) (e : Ending) (w' : World) : Prop :=
  ∃ A0 A1 c0 c1, e = .returned (p.v (.slice A0 p.q0.length c0) (.slice A1 p.q1.length c1)) ∧ Way w' A0 p.q0.length p.q0 ∧ Way w' A1 p.q1.length p.q1 ∧ p.q0.length ≤ c0 ∧ p.q1.length ≤ c1 ∧ Below w.heap.size w w'
theorem PPost.mk {w w' : World} {p : Pr} {e : Ending} {A0 A1 : Option Addr} {c0 c1 n0 n1 : Nat} (h0 : p.q0.length = n0) (h1 : p.q1.length = n1) (he : e = .returned (p.v (.slice A0 n0 c0) (.slice A1 n1 c1))) (k0 : Way w' A0 n0 p.q0) (k1 : Way w' A1 n1 p.q1) (z0 : n0 ≤ c0) (z1 : n1 ≤ c1) (hb : Below w.heap.size w w') : PPost w p e w' := by
  subst h0; subst h1; exact ⟨A0, A1, c0, c1, he, k0, k1, z0, z1, hb⟩
theorem grown_heap {w w1 : World} {row : Option Nat} {g : Nat} {o : Obj} (hb : w.grownBy w1 row) (h : w.heap[g]? = some o) (hr : row ≠ some g) : w1.heap[g]? = some o := by
  have hg : g < w.heap.size := (Array.getElem?_eq_some_iff.1 h).1
  exact (hb.block g hg (fun e => hr e.symm)).trans h
theorem blk_cells {w : World} {g : Nat} {cs : Array Value} {t : TypeId} (h : w.heap[g]? = some (.cells cs t (0, 0))) : (∀ o, w.cell? ⟨g, o, none⟩ = cs[o]?) ∧ (∀ o, w.frozen? ⟨g, o, none⟩ = false) :=
  ⟨fun o => by simp [World.cell?, h], fun o => by simp [World.frozen?, h]⟩
theorem below_setRow {B g : Nat} {a w : World} (h : Below B a w) (hg : B ≤ g) (cs : Array Value) : Below B a (w.setRow g cs) :=
  ⟨h.os, h.tape, h.output, by simpa using h.size, fun k hk => (setRow_other w g k cs (by omega)).trans (h.block k hk)⟩
/-- The end of 'moved': one slot of the pair is stored, the pair is laid into the result's block. -/
theorem ended {w w2 : World} {i : Nat} {v : Value} {c0 c2 c' : Array Value} (hb : Below w.heap.size w w2) (hn : w.heap.size + 1 + 1 + 1 ≤ w2.heap.size) (h0 : w2.heap[w.heap.size]? = some (.cells c0 34 (0, 0))) (h2 : w2.heap[w.heap.size + 1 + 1]? = some (.cells c2 34 (0, 0))) :
    Below w.heap.size w ((w2.setCell ⟨w.heap.size, i, none⟩ v).setRow (w.heap.size + 1 + 1) c') ∧ KeepH w2 ((w2.setCell ⟨w.heap.size, i, none⟩ v).setRow (w.heap.size + 1 + 1) c') :=
  ⟨below_setRow (hb.setCell (p := ⟨w.heap.size, i, none⟩) (Nat.le_refl _) v) (by omega) c', fun g cur hg => by
    have n0 : g ≠ w.heap.size := by rintro rfl; rw [h0] at hg; cases hg
    have n2 : g ≠ w.heap.size + 1 + 1 := by rintro rfl; rw [h2] at hg; cases hg
    rw [setRow_other _ _ _ _ n2, heap_setCell_other _ _ _ _ n0, hg]⟩
theorem heap_set {w : World} {g i : Nat} {cs cs' : Array Value} {t : TypeId} {v : Value} (hg : w.heap[g]? = some (.cells cs t (0, 0))) (h : cs.setIfInBounds i v = cs') : (w.setCell ⟨g, i, none⟩ v).heap[g]? = some (.cells cs' t (0, 0)) := by
  subst h; exact heap_setCell_same w g i cs t v hg
theorem heap_far {w : World} {g k i : Nat} {o : Obj} {v : Value} (hg : w.heap[k]? = some o) (h : k ≠ g) : (w.setCell ⟨g, i, none⟩ v).heap[k]? = some o := (heap_setCell_other w _ k v h).trans hg
theorem pair_one (a0 a1 a2 a3 a4 a5 a6 a7 a8 a9 a10 b0 b1 b2 b3 b4 b5 b6 b7 b8 b9 b10 m0 m1 : Int) (p0 p1 : Option Addr) (n0 n1 c0 c1 : Nat) (o0 o1 : Bool) : (#[.int .i64 a0, .int .i64 a1, .int .u32 a2, .int .u32 a3, .int .u32 a4, .int .u32 a5, .int .i64 a6, .int .i64 a7, .int .u8 a8, .int .i64 a9, .int .i64 a10, .int .i64 b0, .int .i64 b1, .int .u32 b2, .int .u32 b3, .int .u32 b4, .int .u32 b5, .int .i64 b6, .int .i64 b7, .int .u8 b8, .int .i64 b9, .int .i64 b10, .slice p0 n0 c0, .slice p1 n1 c1, .bool o0, .bool o1, .int .i64 m0, .int .i64 m1] : Array Value).all (·.oneCell') = true := by simp [Value.oneCell']
theorem pair_size (a0 a1 a2 a3 a4 a5 a6 a7 a8 a9 a10 b0 b1 b2 b3 b4 b5 b6 b7 b8 b9 b10 m0 m1 : Int) (p0 p1 : Option Addr) (n0 n1 c0 c1 : Nat) (o0 o1 : Bool) : (Try.prog.info? 34).map (·.size) = some (#[.int .i64 a0, .int .i64 a1, .int .u32 a2, .int .u32 a3, .int .u32 a4, .int .u32 a5, .int .i64 a6, .int .i64 a7, .int .u8 a8, .int .i64 a9, .int .i64 a10, .int .i64 b0, .int .i64 b1, .int .u32 b2, .int .u32 b3, .int .u32 b4, .int .u32 b5, .int .i64 b6, .int .i64 b7, .int .u8 b8, .int .i64 b9, .int .i64 b10, .slice p0 n0 c0, .slice p1 n1 c1, .bool o0, .bool o1, .int .i64 m0, .int .i64 m1] : Array Value).size := by kernel_rfl
theorem ne2 (n : Nat) : n + 1 + 1 ≠ n := by omega
/-- Behind the first append. -/
theorem app1 {w W w1 : World} {v1 : Value} {o0 o2 : Obj} (hb : Below w.heap.size w W) (hz : W.heap.size = w.heap.size + 1 + 1 + 1 + 1) (hg : W.grownBy w1 (some (w.heap.size + 1 + 1 + 1)))
    (hat : v1.ownBlock = some (w.heap.size + 1 + 1 + 1) ∨ v1.ownBlock = some W.heap.size) (h0 : W.heap[w.heap.size]? = some o0) (h2 : W.heap[w.heap.size + 1 + 1]? = some o2) :
    Hid (Below w.heap.size w w1) ∧ Hid (w1.heap[w.heap.size]? = some o0) ∧ Hid (w1.heap[w.heap.size + 1 + 1]? = some o2) ∧ Hid (w.heap.size + 1 + 1 + 1 ≤ w1.heap.size) ∧ Hid (∀ g, v1.ownBlock = some g → w.heap.size + 1 + 1 + 1 ≤ g) := by
  refine ⟨Lib.hid (hb.grown hg (by omega) (by intro k hk; injection hk; omega)), Lib.hid (grown_heap hg h0 (by intro h; injection h; omega)), Lib.hid (grown_heap hg h2 (by intro h; injection h; omega)), Lib.hid (by have := hg.size; omega), Lib.hid ?_⟩
  intro g h
  rcases hat with e | e <;> (rw [e] at h; injection h; omega)
/-- Behind the second one. -/
theorem app2 {w w1 w2 : World} {v1 : Value} {c0 c2 : Array Value} {t0 t2 : TypeId} (hb : Below w.heap.size w w1) (h0 : w1.heap[w.heap.size]? = some (.cells c0 t0 (0, 0))) (h2 : w1.heap[w.heap.size + 1 + 1]? = some (.cells c2 t2 (0, 0))) (hn : w.heap.size + 1 + 1 + 1 ≤ w1.heap.size)
    (ho : ∀ g, v1.ownBlock = some g → w.heap.size + 1 + 1 + 1 ≤ g) (hg : w1.grownBy w2 v1.ownBlock) :
    ((∀ o, w2.cell? ⟨w.heap.size, o, none⟩ = c0[o]?) ∧ (∀ o, w2.frozen? ⟨w.heap.size, o, none⟩ = false)) ∧ Hid (w2.heap[w.heap.size]? = some (.cells c0 t0 (0, 0))) ∧ Hid (w2.heap[w.heap.size + 1 + 1]? = some (.cells c2 t2 (0, 0))) ∧ Hid (Below w.heap.size w w2) ∧ Hid (w.heap.size + 1 + 1 + 1 ≤ w2.heap.size) :=
  ⟨blk_cells (grown_heap hg h0 (fun h => by have := ho _ h; omega)), Lib.hid (grown_heap hg h0 (fun h => by have := ho _ h; omega)), Lib.hid (grown_heap hg h2 (fun h => by have := ho _ h; omega)), Lib.hid (hb.grown hg (by omega) (fun k hk => by have := ho _ hk; omega)), Lib.hid (by have := hg.size; omega)⟩
set_option maxRecDepth 100000 in
set_option maxHeartbeats 2000000 in
theorem moved_0_no (a0 a1 a2 a3 a4 a5 a6 a7 a8 a9 a10 b0 b1 b2 b3 b4 b5 b6 b7 b8 b9 b10 s0 s1 s2 s3 s4 s5 s6 s7 s8 s9 s10 m0 m1 : Int) (p0 p1 pl : Option Addr) (n0 n1 nl c0 c1 cl : Nat) (o0 o1 : Bool) (q0 q1 l : List H) (h4 : ¬ s0 = 4) (w : World) (k0 : Way w p0 n0 q0) (k1 : Way w p1 n1 q1) (kl : Way w pl nl l) (z0 : n0 ≤ c0) (z1 : n1 ≤ c1) (z2 : n1 + nl ≤ 1000) :
    Calls Try.prog 8 #[(Value.agg #[.int .i64 a0, .int .i64 a1, .int .u32 a2, .int .u32 a3, .int .u32 a4, .int .u32 a5, .int .i64 a6, .int .i64 a7, .int .u8 a8, .int .i64 a9, .int .i64 a10, .int .i64 b0, .int .i64 b1, .int .u32 b2, .int .u32 b3, .int .u32 b4, .int .u32 b5, .int .i64 b6, .int .i64 b7, .int .u8 b8, .int .i64 b9, .int .i64 b10, .slice p0 n0 c0, .slice p1 n1 c1, .bool o0, .bool o1, .int .i64 m0, .int .i64 m1]), .int .i64 0, (Value.agg #[.int .i64 s0, .int .i64 s1, .int .u32 s2, .int .u32 s3, .int .u32 s4, .int .u32 s5, .int .i64 s6, .int .i64 s7, .int .u8 s8, .int .i64 s9, .int .i64 s10]), .slice pl nl cl] w (PPost w ⟨⟨s0, s1, s2, s3, s4, s5, s6, s7, s8, s9, s10⟩, ⟨b0, b1, b2, b3, b4, b5, b6, b7, b8, b9, b10⟩, q0, q1 ++ l, o0, o1, m0, m1⟩) := by
  obtain ⟨i0, hi, hz0, hz1, hz2⟩ := info_parts Try.info52
  have K0 := Lib.hid k0; have K1 := Lib.hid k1; have KL := Lib.hid kl
  have Z0 := Lib.hid z0; have Z1 := Lib.hid z1
  have M1 : Hid (n1 ≤ maxLen) := Lib.hid (by simp only [maxLen]; omega)
  have M2 : Hid (n1 * 24 ≤ 140737488355328) := Lib.hid (by omega)
  have M3 : Hid (n1 + nl ≤ maxLen) := Lib.hid (by simp only [maxLen]; omega)
  have M4 : Hid ((n1 + nl) * 24 ≤ 140737488355328) := Lib.hid (by omega)
  have Z2 := Lib.hid z2
  clear k0 k1 kl z0 z1 z2
  have hb4 : (s0 == 4) = false := by simpa using h4
  clear h4
  go_enter Try.func8, Try.ntmps8
  go_wp2_with (first | (at_builtin; refine wpList_append_form _ ?g1 (.tmp 33) (.tmp 38) 29 ?g2 (w.heap.size + 1 + 1 + 1) 52 i0 _ 10 24 Try.underlying29 hi hz0 hz1 hz2 ?g3 ?g4 (.slice (some ⟨w.heap.size + 1 + 1 + 1, 0, none⟩) 0 0) 0 [] ?g5 ?g7 w.heap.size p1 n1 c1 (q1.flatMap H.cells) ?g6 ?g8 (H.one _) n1 (Nat.zero_add _) (q1.flatMap H.cells) rfl M1.out M2.out ?m3 ?_; (case g1 => rfl); (case g2 => rfl); (case g3 => rfl); (case g4 => decide); (case g5 => rfl); (case g6 => rfl); (case m3 => simp); (case g7 => exact ⟨rfl, .inr ⟨_, 0, _, rfl, Nat.le_refl _, (by repeat (first | (refine heap_new ?_; (simp; done)) | refine heap_alloc ?_ _ | refine heap_drew ?_)), Nat.le_refl _, by decide, rfl, rfl⟩⟩); (case g8 => exact K1.out.reads.below (by repeat (first | exact Below.refl _ _ | refine Below.drew ?_ | refine below_drewN ?_ _ | (refine Below.alloc ?_ ?hB _; (case hB => first | (simp; done) | (simp; omega)))))); intro A1 e1 w1 hown1 hg1 hat1 _; have Hown1 := Lib.hid hown1; obtain ⟨B1, R1, T1, N1, O1⟩ := app1 (w := w) (o0 := .cells #[.int .i64 s0, .int .i64 s1, .int .u32 s2, .int .u32 s3, .int .u32 s4, .int .u32 s5, .int .i64 s6, .int .i64 s7, .int .u8 s8, .int .i64 s9, .int .i64 s10, .int .i64 b0, .int .i64 b1, .int .u32 b2, .int .u32 b3, .int .u32 b4, .int .u32 b5, .int .i64 b6, .int .i64 b7, .int .u8 b8, .int .i64 b9, .int .i64 b10, .slice p0 n0 c0, .slice p1 n1 c1, .bool o0, .bool o1, .int .i64 m0, .int .i64 m1] 34) (o2 := .cells #[.int .i64 0, .int .i64 0, .int .u32 0, .int .u32 0, .int .u32 0, .int .u32 0, .int .i64 0, .int .i64 0, .int .u8 0, .int .i64 0, .int .i64 0, .int .i64 0, .int .i64 0, .int .u32 0, .int .u32 0, .int .u32 0, .int .u32 0, .int .i64 0, .int .i64 0, .int .u8 0, .int .i64 0, .int .i64 0, .slice none 0 0, .slice none 0 0, .bool false, .bool false, .int .i64 0, .int .i64 0] 34) (by repeat (first | exact Below.refl _ _ | refine Below.drew ?_ | refine below_drewN ?_ _ | (refine Below.alloc ?_ ?hB _; (case hB => first | (simp; done) | (simp; omega))))) (by simp) hg1 hat1 (by repeat (first | (refine heap_new ?_; (simp; done)) | refine heap_alloc ?_ _ | refine heap_drew ?_)) (by repeat (first | (refine heap_new ?_; (simp; done)) | refine heap_alloc ?_ _ | refine heap_drew ?_)); clear hown1 hg1 hat1) | (at_builtin; refine wpList_append_form _ ?g1 (.tmp 39) (.tmp 40) 29 ?g2 (w.heap.size + 1 + 1 + 1) 52 i0 _ 10 24 Try.underlying29 hi hz0 hz1 hz2 ?g3 ?g4 (.slice A1 n1 e1) n1 (q1.flatMap H.cells) ?g5 Hown1.out w.heap.size pl nl cl (l.flatMap H.cells) ?g6 ?g8 (H.one _) (n1 + nl) rfl ((q1 ++ l).flatMap H.cells) (by rw [List.flatMap_append]) M3.out M4.out ?m3 ?_; (case g1 => rfl); (case g2 => rfl); (case g3 => rfl); (case g4 => decide); (case g5 => rfl); (case g6 => rfl); (case m3 => exact N1.out); (case g8 => exact (KL.out.reads).below B1.out); intro A2 e2 w2 hown2 hg2 hat2 hle2; obtain ⟨⟨r0, f0⟩, G0, G2, B2, N2⟩ := app2 B1.out R1.out T1.out N1.out O1.out hg2; have Hown2 := Lib.hid hown2; have Hle2 := Lib.hid hle2; clear hown2 hg2 hat2 hle2) | (refine wpList_load_row rfl 34 (.tmp 4) rfl w.heap.size rfl 34 #[.int .i64 s0, .int .i64 s1, .int .u32 s2, .int .u32 s3, .int .u32 s4, .int .u32 s5, .int .i64 s6, .int .i64 s7, .int .u8 s8, .int .i64 s9, .int .i64 s10, .int .i64 b0, .int .i64 b1, .int .u32 b2, .int .u32 b3, .int .u32 b4, .int .u32 b5, .int .i64 b6, .int .i64 b7, .int .u8 b8, .int .i64 b9, .int .i64 b10, .slice p0 n0 c0, .slice A2 (n1 + nl) e2, .bool o0, .bool o1, .int .i64 m0, .int .i64 m1] (0, 0) _ (heap_set G0.out rfl) Try.underlying34 rfl (by kernel_rfl) ?_) | (refine wpList_store_row rfl 34 (.tmp 8) (.tmp 44) rfl (w.heap.size + 1 + 1) #[.int .i64 s0, .int .i64 s1, .int .u32 s2, .int .u32 s3, .int .u32 s4, .int .u32 s5, .int .i64 s6, .int .i64 s7, .int .u8 s8, .int .i64 s9, .int .i64 s10, .int .i64 b0, .int .i64 b1, .int .u32 b2, .int .u32 b3, .int .u32 b4, .int .u32 b5, .int .i64 b6, .int .i64 b7, .int .u8 b8, .int .i64 b9, .int .i64 b10, .slice p0 n0 c0, .slice A2 (n1 + nl) e2, .bool o0, .bool o1, .int .i64 m0, .int .i64 m1] rfl rfl 34 #[.int .i64 0, .int .i64 0, .int .u32 0, .int .u32 0, .int .u32 0, .int .u32 0, .int .i64 0, .int .i64 0, .int .u8 0, .int .i64 0, .int .i64 0, .int .i64 0, .int .i64 0, .int .u32 0, .int .u32 0, .int .u32 0, .int .u32 0, .int .i64 0, .int .i64 0, .int .u8 0, .int .i64 0, .int .i64 0, .slice none 0 0, .slice none 0 0, .bool false, .bool false, .int .i64 0, .int .i64 0] (heap_far (g := w.heap.size) G2.out (ne2 _)) (pair_size _ _ _ _ _ _ _ _ _ _ _ _ _ _ _ _ _ _ _ _ _ _ _ _ _ _ _ _ _ _ _ _ ) rfl (pair_one _ _ _ _ _ _ _ _ _ _ _ _ _ _ _ _ _ _ _ _ _ _ _ _ _ _ _ _ _ _ _ _ ) ?_))
  have hq : (q1 ++ l).length = n1 + nl := by rw [List.length_append, K1.out.1, KL.out.1]
  obtain ⟨E1, E2⟩ := ended (i := 23) (v := .slice A2 (n1 + nl) e2) (c' := #[.int .i64 s0, .int .i64 s1, .int .u32 s2, .int .u32 s3, .int .u32 s4, .int .u32 s5, .int .i64 s6, .int .i64 s7, .int .u8 s8, .int .i64 s9, .int .i64 s10, .int .i64 b0, .int .i64 b1, .int .u32 b2, .int .u32 b3, .int .u32 b4, .int .u32 b5, .int .i64 b6, .int .i64 b7, .int .u8 b8, .int .i64 b9, .int .i64 b10, .slice p0 n0 c0, .slice A2 (n1 + nl) e2, .bool o0, .bool o1, .int .i64 m0, .int .i64 m1]) B2.out N2.out G0.out G2.out
  have hl0 := K0.out.1
  refine bodyPost_ret (v := .agg #[.int .i64 s0, .int .i64 s1, .int .u32 s2, .int .u32 s3, .int .u32 s4, .int .u32 s5, .int .i64 s6, .int .i64 s7, .int .u8 s8, .int .i64 s9, .int .i64 s10, .int .i64 b0, .int .i64 b1, .int .u32 b2, .int .u32 b3, .int .u32 b4, .int .u32 b5, .int .i64 b6, .int .i64 b7, .int .u8 b8, .int .i64 b9, .int .i64 b10, .slice p0 n0 c0, .slice A2 (n1 + nl) e2, .bool o0, .bool o1, .int .i64 m0, .int .i64 m1]) (results_cell_row rfl _ _ (w.heap.size + 1 + 1) 34 #[.int .i64 s0, .int .i64 s1, .int .u32 s2, .int .u32 s3, .int .u32 s4, .int .u32 s5, .int .i64 s6, .int .i64 s7, .int .u8 s8, .int .i64 s9, .int .i64 s10, .int .i64 b0, .int .i64 b1, .int .u32 b2, .int .u32 b3, .int .u32 b4, .int .u32 b5, .int .i64 b6, .int .i64 b7, .int .u8 b8, .int .i64 b9, .int .i64 b10, .slice p0 n0 c0, .slice A2 (n1 + nl) e2, .bool o0, .bool o1, .int .i64 m0, .int .i64 m1] (0, 0) _ rfl (setRow_heap _ _ #[.int .i64 0, .int .i64 0, .int .u32 0, .int .u32 0, .int .u32 0, .int .u32 0, .int .i64 0, .int .i64 0, .int .u8 0, .int .i64 0, .int .i64 0, .int .i64 0, .int .i64 0, .int .u32 0, .int .u32 0, .int .u32 0, .int .u32 0, .int .i64 0, .int .i64 0, .int .u8 0, .int .i64 0, .int .i64 0, .slice none 0 0, .slice none 0 0, .bool false, .bool false, .int .i64 0, .int .i64 0] _ 34 (0, 0) (heap_far (g := w.heap.size) G2.out (ne2 _))) Try.underlying34 rfl (by kernel_rfl)) rfl ?_
  exact PPost.mk hl0 hq rfl (K0.out.below E1) ((Way.of_own Hown2.out).keep E2) Z0.out Hle2.out E1
set_option maxRecDepth 100000 in
set_option maxHeartbeats 2000000 in
theorem moved_0_on (a0 a1 a2 a3 a4 a5 a6 a7 a8 a9 a10 b0 b1 b2 b3 b4 b5 b6 b7 b8 b9 b10 s1 s2 s3 s4 s5 s6 s7 s8 s9 s10 m0 m1 : Int) (p0 p1 pl : Option Addr) (n0 n1 nl c0 c1 cl : Nat) (o1 : Bool) (q0 q1 l : List H)  (w : World) (k0 : Way w p0 n0 q0) (k1 : Way w p1 n1 q1) (kl : Way w pl nl l) (z0 : n0 ≤ c0) (z1 : n1 ≤ c1) (z2 : n1 + nl ≤ 1000) :
    Calls Try.prog 8 #[(Value.agg #[.int .i64 a0, .int .i64 a1, .int .u32 a2, .int .u32 a3, .int .u32 a4, .int .u32 a5, .int .i64 a6, .int .i64 a7, .int .u8 a8, .int .i64 a9, .int .i64 a10, .int .i64 b0, .int .i64 b1, .int .u32 b2, .int .u32 b3, .int .u32 b4, .int .u32 b5, .int .i64 b6, .int .i64 b7, .int .u8 b8, .int .i64 b9, .int .i64 b10, .slice p0 n0 c0, .slice p1 n1 c1, .bool false, .bool o1, .int .i64 m0, .int .i64 m1]), .int .i64 0, (Value.agg #[.int .i64 4, .int .i64 s1, .int .u32 s2, .int .u32 s3, .int .u32 s4, .int .u32 s5, .int .i64 s6, .int .i64 s7, .int .u8 s8, .int .i64 s9, .int .i64 s10]), .slice pl nl cl] w (PPost w ⟨⟨4, s1, s2, s3, s4, s5, s6, s7, s8, s9, s10⟩, ⟨b0, b1, b2, b3, b4, b5, b6, b7, b8, b9, b10⟩, q0, q1 ++ l, true, o1, s6, m1⟩) := by
  obtain ⟨i0, hi, hz0, hz1, hz2⟩ := info_parts Try.info52
  have K0 := Lib.hid k0; have K1 := Lib.hid k1; have KL := Lib.hid kl
  have Z0 := Lib.hid z0; have Z1 := Lib.hid z1
  have M1 : Hid (n1 ≤ maxLen) := Lib.hid (by simp only [maxLen]; omega)
  have M2 : Hid (n1 * 24 ≤ 140737488355328) := Lib.hid (by omega)
  have M3 : Hid (n1 + nl ≤ maxLen) := Lib.hid (by simp only [maxLen]; omega)
  have M4 : Hid ((n1 + nl) * 24 ≤ 140737488355328) := Lib.hid (by omega)
  have Z2 := Lib.hid z2
  clear k0 k1 kl z0 z1 z2
  go_enter Try.func8, Try.ntmps8
  go_wp2_with (first | (at_builtin; refine wpList_append_form _ ?g1 (.tmp 33) (.tmp 38) 29 ?g2 (w.heap.size + 1 + 1 + 1) 52 i0 _ 10 24 Try.underlying29 hi hz0 hz1 hz2 ?g3 ?g4 (.slice (some ⟨w.heap.size + 1 + 1 + 1, 0, none⟩) 0 0) 0 [] ?g5 ?g7 w.heap.size p1 n1 c1 (q1.flatMap H.cells) ?g6 ?g8 (H.one _) n1 (Nat.zero_add _) (q1.flatMap H.cells) rfl M1.out M2.out ?m3 ?_; (case g1 => rfl); (case g2 => rfl); (case g3 => rfl); (case g4 => decide); (case g5 => rfl); (case g6 => rfl); (case m3 => simp); (case g7 => exact ⟨rfl, .inr ⟨_, 0, _, rfl, Nat.le_refl _, (by repeat (first | (refine heap_new ?_; (simp; done)) | refine heap_alloc ?_ _ | refine heap_drew ?_)), Nat.le_refl _, by decide, rfl, rfl⟩⟩); (case g8 => exact K1.out.reads.below (by repeat (first | exact Below.refl _ _ | refine Below.drew ?_ | refine below_drewN ?_ _ | (refine Below.alloc ?_ ?hB _; (case hB => first | (simp; done) | (simp; omega)))))); intro A1 e1 w1 hown1 hg1 hat1 _; have Hown1 := Lib.hid hown1; obtain ⟨B1, R1, T1, N1, O1⟩ := app1 (w := w) (o0 := .cells #[.int .i64 4, .int .i64 s1, .int .u32 s2, .int .u32 s3, .int .u32 s4, .int .u32 s5, .int .i64 s6, .int .i64 s7, .int .u8 s8, .int .i64 s9, .int .i64 s10, .int .i64 b0, .int .i64 b1, .int .u32 b2, .int .u32 b3, .int .u32 b4, .int .u32 b5, .int .i64 b6, .int .i64 b7, .int .u8 b8, .int .i64 b9, .int .i64 b10, .slice p0 n0 c0, .slice p1 n1 c1, .bool true, .bool o1, .int .i64 s6, .int .i64 m1] 34) (o2 := .cells #[.int .i64 0, .int .i64 0, .int .u32 0, .int .u32 0, .int .u32 0, .int .u32 0, .int .i64 0, .int .i64 0, .int .u8 0, .int .i64 0, .int .i64 0, .int .i64 0, .int .i64 0, .int .u32 0, .int .u32 0, .int .u32 0, .int .u32 0, .int .i64 0, .int .i64 0, .int .u8 0, .int .i64 0, .int .i64 0, .slice none 0 0, .slice none 0 0, .bool false, .bool false, .int .i64 0, .int .i64 0] 34) (by repeat (first | exact Below.refl _ _ | refine Below.drew ?_ | refine below_drewN ?_ _ | (refine Below.alloc ?_ ?hB _; (case hB => first | (simp; done) | (simp; omega))))) (by simp) hg1 hat1 (by repeat (first | (refine heap_new ?_; (simp; done)) | refine heap_alloc ?_ _ | refine heap_drew ?_)) (by repeat (first | (refine heap_new ?_; (simp; done)) | refine heap_alloc ?_ _ | refine heap_drew ?_)); clear hown1 hg1 hat1) | (at_builtin; refine wpList_append_form _ ?g1 (.tmp 39) (.tmp 40) 29 ?g2 (w.heap.size + 1 + 1 + 1) 52 i0 _ 10 24 Try.underlying29 hi hz0 hz1 hz2 ?g3 ?g4 (.slice A1 n1 e1) n1 (q1.flatMap H.cells) ?g5 Hown1.out w.heap.size pl nl cl (l.flatMap H.cells) ?g6 ?g8 (H.one _) (n1 + nl) rfl ((q1 ++ l).flatMap H.cells) (by rw [List.flatMap_append]) M3.out M4.out ?m3 ?_; (case g1 => rfl); (case g2 => rfl); (case g3 => rfl); (case g4 => decide); (case g5 => rfl); (case g6 => rfl); (case m3 => exact N1.out); (case g8 => exact (KL.out.reads).below B1.out); intro A2 e2 w2 hown2 hg2 hat2 hle2; obtain ⟨⟨r0, f0⟩, G0, G2, B2, N2⟩ := app2 B1.out R1.out T1.out N1.out O1.out hg2; have Hown2 := Lib.hid hown2; have Hle2 := Lib.hid hle2; clear hown2 hg2 hat2 hle2) | (refine wpList_load_row rfl 34 (.tmp 4) rfl w.heap.size rfl 34 #[.int .i64 4, .int .i64 s1, .int .u32 s2, .int .u32 s3, .int .u32 s4, .int .u32 s5, .int .i64 s6, .int .i64 s7, .int .u8 s8, .int .i64 s9, .int .i64 s10, .int .i64 b0, .int .i64 b1, .int .u32 b2, .int .u32 b3, .int .u32 b4, .int .u32 b5, .int .i64 b6, .int .i64 b7, .int .u8 b8, .int .i64 b9, .int .i64 b10, .slice p0 n0 c0, .slice A2 (n1 + nl) e2, .bool true, .bool o1, .int .i64 s6, .int .i64 m1] (0, 0) _ (heap_set G0.out rfl) Try.underlying34 rfl (by kernel_rfl) ?_) | (refine wpList_store_row rfl 34 (.tmp 8) (.tmp 44) rfl (w.heap.size + 1 + 1) #[.int .i64 4, .int .i64 s1, .int .u32 s2, .int .u32 s3, .int .u32 s4, .int .u32 s5, .int .i64 s6, .int .i64 s7, .int .u8 s8, .int .i64 s9, .int .i64 s10, .int .i64 b0, .int .i64 b1, .int .u32 b2, .int .u32 b3, .int .u32 b4, .int .u32 b5, .int .i64 b6, .int .i64 b7, .int .u8 b8, .int .i64 b9, .int .i64 b10, .slice p0 n0 c0, .slice A2 (n1 + nl) e2, .bool true, .bool o1, .int .i64 s6, .int .i64 m1] rfl rfl 34 #[.int .i64 0, .int .i64 0, .int .u32 0, .int .u32 0, .int .u32 0, .int .u32 0, .int .i64 0, .int .i64 0, .int .u8 0, .int .i64 0, .int .i64 0, .int .i64 0, .int .i64 0, .int .u32 0, .int .u32 0, .int .u32 0, .int .u32 0, .int .i64 0, .int .i64 0, .int .u8 0, .int .i64 0, .int .i64 0, .slice none 0 0, .slice none 0 0, .bool false, .bool false, .int .i64 0, .int .i64 0] (heap_far (g := w.heap.size) G2.out (ne2 _)) (pair_size _ _ _ _ _ _ _ _ _ _ _ _ _ _ _ _ _ _ _ _ _ _ _ _ _ _ _ _ _ _ _ _ ) rfl (pair_one _ _ _ _ _ _ _ _ _ _ _ _ _ _ _ _ _ _ _ _ _ _ _ _ _ _ _ _ _ _ _ _ ) ?_))
  have hq : (q1 ++ l).length = n1 + nl := by rw [List.length_append, K1.out.1, KL.out.1]
  obtain ⟨E1, E2⟩ := ended (i := 23) (v := .slice A2 (n1 + nl) e2) (c' := #[.int .i64 4, .int .i64 s1, .int .u32 s2, .int .u32 s3, .int .u32 s4, .int .u32 s5, .int .i64 s6, .int .i64 s7, .int .u8 s8, .int .i64 s9, .int .i64 s10, .int .i64 b0, .int .i64 b1, .int .u32 b2, .int .u32 b3, .int .u32 b4, .int .u32 b5, .int .i64 b6, .int .i64 b7, .int .u8 b8, .int .i64 b9, .int .i64 b10, .slice p0 n0 c0, .slice A2 (n1 + nl) e2, .bool true, .bool o1, .int .i64 s6, .int .i64 m1]) B2.out N2.out G0.out G2.out
  have hl0 := K0.out.1
  refine bodyPost_ret (v := .agg #[.int .i64 4, .int .i64 s1, .int .u32 s2, .int .u32 s3, .int .u32 s4, .int .u32 s5, .int .i64 s6, .int .i64 s7, .int .u8 s8, .int .i64 s9, .int .i64 s10, .int .i64 b0, .int .i64 b1, .int .u32 b2, .int .u32 b3, .int .u32 b4, .int .u32 b5, .int .i64 b6, .int .i64 b7, .int .u8 b8, .int .i64 b9, .int .i64 b10, .slice p0 n0 c0, .slice A2 (n1 + nl) e2, .bool true, .bool o1, .int .i64 s6, .int .i64 m1]) (results_cell_row rfl _ _ (w.heap.size + 1 + 1) 34 #[.int .i64 4, .int .i64 s1, .int .u32 s2, .int .u32 s3, .int .u32 s4, .int .u32 s5, .int .i64 s6, .int .i64 s7, .int .u8 s8, .int .i64 s9, .int .i64 s10, .int .i64 b0, .int .i64 b1, .int .u32 b2, .int .u32 b3, .int .u32 b4, .int .u32 b5, .int .i64 b6, .int .i64 b7, .int .u8 b8, .int .i64 b9, .int .i64 b10, .slice p0 n0 c0, .slice A2 (n1 + nl) e2, .bool true, .bool o1, .int .i64 s6, .int .i64 m1] (0, 0) _ rfl (setRow_heap _ _ #[.int .i64 0, .int .i64 0, .int .u32 0, .int .u32 0, .int .u32 0, .int .u32 0, .int .i64 0, .int .i64 0, .int .u8 0, .int .i64 0, .int .i64 0, .int .i64 0, .int .i64 0, .int .u32 0, .int .u32 0, .int .u32 0, .int .u32 0, .int .i64 0, .int .i64 0, .int .u8 0, .int .i64 0, .int .i64 0, .slice none 0 0, .slice none 0 0, .bool false, .bool false, .int .i64 0, .int .i64 0] _ 34 (0, 0) (heap_far (g := w.heap.size) G2.out (ne2 _))) Try.underlying34 rfl (by kernel_rfl)) rfl ?_
  exact PPost.mk hl0 hq rfl (K0.out.below E1) ((Way.of_own Hown2.out).keep E2) Z0.out Hle2.out E1
set_option maxRecDepth 100000 in
set_option maxHeartbeats 2000000 in
theorem moved_0_was (a0 a1 a2 a3 a4 a5 a6 a7 a8 a9 a10 b0 b1 b2 b3 b4 b5 b6 b7 b8 b9 b10 s1 s2 s3 s4 s5 s6 s7 s8 s9 s10 m0 m1 : Int) (p0 p1 pl : Option Addr) (n0 n1 nl c0 c1 cl : Nat) (o1 : Bool) (q0 q1 l : List H)  (w : World) (k0 : Way w p0 n0 q0) (k1 : Way w p1 n1 q1) (kl : Way w pl nl l) (z0 : n0 ≤ c0) (z1 : n1 ≤ c1) (z2 : n1 + nl ≤ 1000) :
    Calls Try.prog 8 #[(Value.agg #[.int .i64 a0, .int .i64 a1, .int .u32 a2, .int .u32 a3, .int .u32 a4, .int .u32 a5, .int .i64 a6, .int .i64 a7, .int .u8 a8, .int .i64 a9, .int .i64 a10, .int .i64 b0, .int .i64 b1, .int .u32 b2, .int .u32 b3, .int .u32 b4, .int .u32 b5, .int .i64 b6, .int .i64 b7, .int .u8 b8, .int .i64 b9, .int .i64 b10, .slice p0 n0 c0, .slice p1 n1 c1, .bool true, .bool o1, .int .i64 m0, .int .i64 m1]), .int .i64 0, (Value.agg #[.int .i64 4, .int .i64 s1, .int .u32 s2, .int .u32 s3, .int .u32 s4, .int .u32 s5, .int .i64 s6, .int .i64 s7, .int .u8 s8, .int .i64 s9, .int .i64 s10]), .slice pl nl cl] w (PPost w ⟨⟨4, s1, s2, s3, s4, s5, s6, s7, s8, s9, s10⟩, ⟨b0, b1, b2, b3, b4, b5, b6, b7, b8, b9, b10⟩, q0, q1 ++ l, true, o1, m0, m1⟩) := by
  obtain ⟨i0, hi, hz0, hz1, hz2⟩ := info_parts Try.info52
  have K0 := Lib.hid k0; have K1 := Lib.hid k1; have KL := Lib.hid kl
  have Z0 := Lib.hid z0; have Z1 := Lib.hid z1
  have M1 : Hid (n1 ≤ maxLen) := Lib.hid (by simp only [maxLen]; omega)
  have M2 : Hid (n1 * 24 ≤ 140737488355328) := Lib.hid (by omega)
  have M3 : Hid (n1 + nl ≤ maxLen) := Lib.hid (by simp only [maxLen]; omega)
  have M4 : Hid ((n1 + nl) * 24 ≤ 140737488355328) := Lib.hid (by omega)
  have Z2 := Lib.hid z2
  clear k0 k1 kl z0 z1 z2
  go_enter Try.func8, Try.ntmps8
  go_wp2_with (first | (at_builtin; refine wpList_append_form _ ?g1 (.tmp 33) (.tmp 38) 29 ?g2 (w.heap.size + 1 + 1 + 1) 52 i0 _ 10 24 Try.underlying29 hi hz0 hz1 hz2 ?g3 ?g4 (.slice (some ⟨w.heap.size + 1 + 1 + 1, 0, none⟩) 0 0) 0 [] ?g5 ?g7 w.heap.size p1 n1 c1 (q1.flatMap H.cells) ?g6 ?g8 (H.one _) n1 (Nat.zero_add _) (q1.flatMap H.cells) rfl M1.out M2.out ?m3 ?_; (case g1 => rfl); (case g2 => rfl); (case g3 => rfl); (case g4 => decide); (case g5 => rfl); (case g6 => rfl); (case m3 => simp); (case g7 => exact ⟨rfl, .inr ⟨_, 0, _, rfl, Nat.le_refl _, (by repeat (first | (refine heap_new ?_; (simp; done)) | refine heap_alloc ?_ _ | refine heap_drew ?_)), Nat.le_refl _, by decide, rfl, rfl⟩⟩); (case g8 => exact K1.out.reads.below (by repeat (first | exact Below.refl _ _ | refine Below.drew ?_ | refine below_drewN ?_ _ | (refine Below.alloc ?_ ?hB _; (case hB => first | (simp; done) | (simp; omega)))))); intro A1 e1 w1 hown1 hg1 hat1 _; have Hown1 := Lib.hid hown1; obtain ⟨B1, R1, T1, N1, O1⟩ := app1 (w := w) (o0 := .cells #[.int .i64 4, .int .i64 s1, .int .u32 s2, .int .u32 s3, .int .u32 s4, .int .u32 s5, .int .i64 s6, .int .i64 s7, .int .u8 s8, .int .i64 s9, .int .i64 s10, .int .i64 b0, .int .i64 b1, .int .u32 b2, .int .u32 b3, .int .u32 b4, .int .u32 b5, .int .i64 b6, .int .i64 b7, .int .u8 b8, .int .i64 b9, .int .i64 b10, .slice p0 n0 c0, .slice p1 n1 c1, .bool true, .bool o1, .int .i64 m0, .int .i64 m1] 34) (o2 := .cells #[.int .i64 0, .int .i64 0, .int .u32 0, .int .u32 0, .int .u32 0, .int .u32 0, .int .i64 0, .int .i64 0, .int .u8 0, .int .i64 0, .int .i64 0, .int .i64 0, .int .i64 0, .int .u32 0, .int .u32 0, .int .u32 0, .int .u32 0, .int .i64 0, .int .i64 0, .int .u8 0, .int .i64 0, .int .i64 0, .slice none 0 0, .slice none 0 0, .bool false, .bool false, .int .i64 0, .int .i64 0] 34) (by repeat (first | exact Below.refl _ _ | refine Below.drew ?_ | refine below_drewN ?_ _ | (refine Below.alloc ?_ ?hB _; (case hB => first | (simp; done) | (simp; omega))))) (by simp) hg1 hat1 (by repeat (first | (refine heap_new ?_; (simp; done)) | refine heap_alloc ?_ _ | refine heap_drew ?_)) (by repeat (first | (refine heap_new ?_; (simp; done)) | refine heap_alloc ?_ _ | refine heap_drew ?_)); clear hown1 hg1 hat1) | (at_builtin; refine wpList_append_form _ ?g1 (.tmp 39) (.tmp 40) 29 ?g2 (w.heap.size + 1 + 1 + 1) 52 i0 _ 10 24 Try.underlying29 hi hz0 hz1 hz2 ?g3 ?g4 (.slice A1 n1 e1) n1 (q1.flatMap H.cells) ?g5 Hown1.out w.heap.size pl nl cl (l.flatMap H.cells) ?g6 ?g8 (H.one _) (n1 + nl) rfl ((q1 ++ l).flatMap H.cells) (by rw [List.flatMap_append]) M3.out M4.out ?m3 ?_; (case g1 => rfl); (case g2 => rfl); (case g3 => rfl); (case g4 => decide); (case g5 => rfl); (case g6 => rfl); (case m3 => exact N1.out); (case g8 => exact (KL.out.reads).below B1.out); intro A2 e2 w2 hown2 hg2 hat2 hle2; obtain ⟨⟨r0, f0⟩, G0, G2, B2, N2⟩ := app2 B1.out R1.out T1.out N1.out O1.out hg2; have Hown2 := Lib.hid hown2; have Hle2 := Lib.hid hle2; clear hown2 hg2 hat2 hle2) | (refine wpList_load_row rfl 34 (.tmp 4) rfl w.heap.size rfl 34 #[.int .i64 4, .int .i64 s1, .int .u32 s2, .int .u32 s3, .int .u32 s4, .int .u32 s5, .int .i64 s6, .int .i64 s7, .int .u8 s8, .int .i64 s9, .int .i64 s10, .int .i64 b0, .int .i64 b1, .int .u32 b2, .int .u32 b3, .int .u32 b4, .int .u32 b5, .int .i64 b6, .int .i64 b7, .int .u8 b8, .int .i64 b9, .int .i64 b10, .slice p0 n0 c0, .slice A2 (n1 + nl) e2, .bool true, .bool o1, .int .i64 m0, .int .i64 m1] (0, 0) _ (heap_set G0.out rfl) Try.underlying34 rfl (by kernel_rfl) ?_) | (refine wpList_store_row rfl 34 (.tmp 8) (.tmp 44) rfl (w.heap.size + 1 + 1) #[.int .i64 4, .int .i64 s1, .int .u32 s2, .int .u32 s3, .int .u32 s4, .int .u32 s5, .int .i64 s6, .int .i64 s7, .int .u8 s8, .int .i64 s9, .int .i64 s10, .int .i64 b0, .int .i64 b1, .int .u32 b2, .int .u32 b3, .int .u32 b4, .int .u32 b5, .int .i64 b6, .int .i64 b7, .int .u8 b8, .int .i64 b9, .int .i64 b10, .slice p0 n0 c0, .slice A2 (n1 + nl) e2, .bool true, .bool o1, .int .i64 m0, .int .i64 m1] rfl rfl 34 #[.int .i64 0, .int .i64 0, .int .u32 0, .int .u32 0, .int .u32 0, .int .u32 0, .int .i64 0, .int .i64 0, .int .u8 0, .int .i64 0, .int .i64 0, .int .i64 0, .int .i64 0, .int .u32 0, .int .u32 0, .int .u32 0, .int .u32 0, .int .i64 0, .int .i64 0, .int .u8 0, .int .i64 0, .int .i64 0, .slice none 0 0, .slice none 0 0, .bool false, .bool false, .int .i64 0, .int .i64 0] (heap_far (g := w.heap.size) G2.out (ne2 _)) (pair_size _ _ _ _ _ _ _ _ _ _ _ _ _ _ _ _ _ _ _ _ _ _ _ _ _ _ _ _ _ _ _ _ ) rfl (pair_one _ _ _ _ _ _ _ _ _ _ _ _ _ _ _ _ _ _ _ _ _ _ _ _ _ _ _ _ _ _ _ _ ) ?_))
  have hq : (q1 ++ l).length = n1 + nl := by rw [List.length_append, K1.out.1, KL.out.1]
  obtain ⟨E1, E2⟩ := ended (i := 23) (v := .slice A2 (n1 + nl) e2) (c' := #[.int .i64 4, .int .i64 s1, .int .u32 s2, .int .u32 s3, .int .u32 s4, .int .u32 s5, .int .i64 s6, .int .i64 s7, .int .u8 s8, .int .i64 s9, .int .i64 s10, .int .i64 b0, .int .i64 b1, .int .u32 b2, .int .u32 b3, .int .u32 b4, .int .u32 b5, .int .i64 b6, .int .i64 b7, .int .u8 b8, .int .i64 b9, .int .i64 b10, .slice p0 n0 c0, .slice A2 (n1 + nl) e2, .bool true, .bool o1, .int .i64 m0, .int .i64 m1]) B2.out N2.out G0.out G2.out
  have hl0 := K0.out.1
  refine bodyPost_ret (v := .agg #[.int .i64 4, .int .i64 s1, .int .u32 s2, .int .u32 s3, .int .u32 s4, .int .u32 s5, .int .i64 s6, .int .i64 s7, .int .u8 s8, .int .i64 s9, .int .i64 s10, .int .i64 b0, .int .i64 b1, .int .u32 b2, .int .u32 b3, .int .u32 b4, .int .u32 b5, .int .i64 b6, .int .i64 b7, .int .u8 b8, .int .i64 b9, .int .i64 b10, .slice p0 n0 c0, .slice A2 (n1 + nl) e2, .bool true, .bool o1, .int .i64 m0, .int .i64 m1]) (results_cell_row rfl _ _ (w.heap.size + 1 + 1) 34 #[.int .i64 4, .int .i64 s1, .int .u32 s2, .int .u32 s3, .int .u32 s4, .int .u32 s5, .int .i64 s6, .int .i64 s7, .int .u8 s8, .int .i64 s9, .int .i64 s10, .int .i64 b0, .int .i64 b1, .int .u32 b2, .int .u32 b3, .int .u32 b4, .int .u32 b5, .int .i64 b6, .int .i64 b7, .int .u8 b8, .int .i64 b9, .int .i64 b10, .slice p0 n0 c0, .slice A2 (n1 + nl) e2, .bool true, .bool o1, .int .i64 m0, .int .i64 m1] (0, 0) _ rfl (setRow_heap _ _ #[.int .i64 0, .int .i64 0, .int .u32 0, .int .u32 0, .int .u32 0, .int .u32 0, .int .i64 0, .int .i64 0, .int .u8 0, .int .i64 0, .int .i64 0, .int .i64 0, .int .i64 0, .int .u32 0, .int .u32 0, .int .u32 0, .int .u32 0, .int .i64 0, .int .i64 0, .int .u8 0, .int .i64 0, .int .i64 0, .slice none 0 0, .slice none 0 0, .bool false, .bool false, .int .i64 0, .int .i64 0] _ 34 (0, 0) (heap_far (g := w.heap.size) G2.out (ne2 _))) Try.underlying34 rfl (by kernel_rfl)) rfl ?_
  exact PPost.mk hl0 hq rfl (K0.out.below E1) ((Way.of_own Hown2.out).keep E2) Z0.out Hle2.out E1
set_option maxRecDepth 100000 in
set_option maxHeartbeats 2000000 in
theorem moved_1_no (a0 a1 a2 a3 a4 a5 a6 a7 a8 a9 a10 b0 b1 b2 b3 b4 b5 b6 b7 b8 b9 b10 s0 s1 s2 s3 s4 s5 s6 s7 s8 s9 s10 m0 m1 : Int) (p0 p1 pl : Option Addr) (n0 n1 nl c0 c1 cl : Nat) (o0 o1 : Bool) (q0 q1 l : List H) (h4 : ¬ s0 = 4) (w : World) (k0 : Way w p0 n0 q0) (k1 : Way w p1 n1 q1) (kl : Way w pl nl l) (z0 : n0 ≤ c0) (z1 : n1 ≤ c1) (z2 : n0 + nl ≤ 1000) :
    Calls Try.prog 8 #[(Value.agg #[.int .i64 a0, .int .i64 a1, .int .u32 a2, .int .u32 a3, .int .u32 a4, .int .u32 a5, .int .i64 a6, .int .i64 a7, .int .u8 a8, .int .i64 a9, .int .i64 a10, .int .i64 b0, .int .i64 b1, .int .u32 b2, .int .u32 b3, .int .u32 b4, .int .u32 b5, .int .i64 b6, .int .i64 b7, .int .u8 b8, .int .i64 b9, .int .i64 b10, .slice p0 n0 c0, .slice p1 n1 c1, .bool o0, .bool o1, .int .i64 m0, .int .i64 m1]), .int .i64 1, (Value.agg #[.int .i64 s0, .int .i64 s1, .int .u32 s2, .int .u32 s3, .int .u32 s4, .int .u32 s5, .int .i64 s6, .int .i64 s7, .int .u8 s8, .int .i64 s9, .int .i64 s10]), .slice pl nl cl] w (PPost w ⟨⟨a0, a1, a2, a3, a4, a5, a6, a7, a8, a9, a10⟩, ⟨s0, s1, s2, s3, s4, s5, s6, s7, s8, s9, s10⟩, q0 ++ l, q1, o0, o1, m0, m1⟩) := by
  obtain ⟨i0, hi, hz0, hz1, hz2⟩ := info_parts Try.info52
  have K0 := Lib.hid k0; have K1 := Lib.hid k1; have KL := Lib.hid kl
  have Z0 := Lib.hid z0; have Z1 := Lib.hid z1
  have M1 : Hid (n0 ≤ maxLen) := Lib.hid (by simp only [maxLen]; omega)
  have M2 : Hid (n0 * 24 ≤ 140737488355328) := Lib.hid (by omega)
  have M3 : Hid (n0 + nl ≤ maxLen) := Lib.hid (by simp only [maxLen]; omega)
  have M4 : Hid ((n0 + nl) * 24 ≤ 140737488355328) := Lib.hid (by omega)
  have Z2 := Lib.hid z2
  clear k0 k1 kl z0 z1 z2
  have hb4 : (s0 == 4) = false := by simpa using h4
  clear h4
  go_enter Try.func8, Try.ntmps8
  go_wp2_with (first | (at_builtin; refine wpList_append_form _ ?g1 (.tmp 33) (.tmp 38) 29 ?g2 (w.heap.size + 1 + 1 + 1) 52 i0 _ 10 24 Try.underlying29 hi hz0 hz1 hz2 ?g3 ?g4 (.slice (some ⟨w.heap.size + 1 + 1 + 1, 0, none⟩) 0 0) 0 [] ?g5 ?g7 w.heap.size p0 n0 c0 (q0.flatMap H.cells) ?g6 ?g8 (H.one _) n0 (Nat.zero_add _) (q0.flatMap H.cells) rfl M1.out M2.out ?m3 ?_; (case g1 => rfl); (case g2 => rfl); (case g3 => rfl); (case g4 => decide); (case g5 => rfl); (case g6 => rfl); (case m3 => simp); (case g7 => exact ⟨rfl, .inr ⟨_, 0, _, rfl, Nat.le_refl _, (by repeat (first | (refine heap_new ?_; (simp; done)) | refine heap_alloc ?_ _ | refine heap_drew ?_)), Nat.le_refl _, by decide, rfl, rfl⟩⟩); (case g8 => exact K0.out.reads.below (by repeat (first | exact Below.refl _ _ | refine Below.drew ?_ | refine below_drewN ?_ _ | (refine Below.alloc ?_ ?hB _; (case hB => first | (simp; done) | (simp; omega)))))); intro A1 e1 w1 hown1 hg1 hat1 _; have Hown1 := Lib.hid hown1; obtain ⟨B1, R1, T1, N1, O1⟩ := app1 (w := w) (o0 := .cells #[.int .i64 a0, .int .i64 a1, .int .u32 a2, .int .u32 a3, .int .u32 a4, .int .u32 a5, .int .i64 a6, .int .i64 a7, .int .u8 a8, .int .i64 a9, .int .i64 a10, .int .i64 s0, .int .i64 s1, .int .u32 s2, .int .u32 s3, .int .u32 s4, .int .u32 s5, .int .i64 s6, .int .i64 s7, .int .u8 s8, .int .i64 s9, .int .i64 s10, .slice p0 n0 c0, .slice p1 n1 c1, .bool o0, .bool o1, .int .i64 m0, .int .i64 m1] 34) (o2 := .cells #[.int .i64 0, .int .i64 0, .int .u32 0, .int .u32 0, .int .u32 0, .int .u32 0, .int .i64 0, .int .i64 0, .int .u8 0, .int .i64 0, .int .i64 0, .int .i64 0, .int .i64 0, .int .u32 0, .int .u32 0, .int .u32 0, .int .u32 0, .int .i64 0, .int .i64 0, .int .u8 0, .int .i64 0, .int .i64 0, .slice none 0 0, .slice none 0 0, .bool false, .bool false, .int .i64 0, .int .i64 0] 34) (by repeat (first | exact Below.refl _ _ | refine Below.drew ?_ | refine below_drewN ?_ _ | (refine Below.alloc ?_ ?hB _; (case hB => first | (simp; done) | (simp; omega))))) (by simp) hg1 hat1 (by repeat (first | (refine heap_new ?_; (simp; done)) | refine heap_alloc ?_ _ | refine heap_drew ?_)) (by repeat (first | (refine heap_new ?_; (simp; done)) | refine heap_alloc ?_ _ | refine heap_drew ?_)); clear hown1 hg1 hat1) | (at_builtin; refine wpList_append_form _ ?g1 (.tmp 39) (.tmp 40) 29 ?g2 (w.heap.size + 1 + 1 + 1) 52 i0 _ 10 24 Try.underlying29 hi hz0 hz1 hz2 ?g3 ?g4 (.slice A1 n0 e1) n0 (q0.flatMap H.cells) ?g5 Hown1.out w.heap.size pl nl cl (l.flatMap H.cells) ?g6 ?g8 (H.one _) (n0 + nl) rfl ((q0 ++ l).flatMap H.cells) (by rw [List.flatMap_append]) M3.out M4.out ?m3 ?_; (case g1 => rfl); (case g2 => rfl); (case g3 => rfl); (case g4 => decide); (case g5 => rfl); (case g6 => rfl); (case m3 => exact N1.out); (case g8 => exact (KL.out.reads).below B1.out); intro A2 e2 w2 hown2 hg2 hat2 hle2; obtain ⟨⟨r0, f0⟩, G0, G2, B2, N2⟩ := app2 B1.out R1.out T1.out N1.out O1.out hg2; have Hown2 := Lib.hid hown2; have Hle2 := Lib.hid hle2; clear hown2 hg2 hat2 hle2) | (refine wpList_load_row rfl 34 (.tmp 4) rfl w.heap.size rfl 34 #[.int .i64 a0, .int .i64 a1, .int .u32 a2, .int .u32 a3, .int .u32 a4, .int .u32 a5, .int .i64 a6, .int .i64 a7, .int .u8 a8, .int .i64 a9, .int .i64 a10, .int .i64 s0, .int .i64 s1, .int .u32 s2, .int .u32 s3, .int .u32 s4, .int .u32 s5, .int .i64 s6, .int .i64 s7, .int .u8 s8, .int .i64 s9, .int .i64 s10, .slice A2 (n0 + nl) e2, .slice p1 n1 c1, .bool o0, .bool o1, .int .i64 m0, .int .i64 m1] (0, 0) _ (heap_set G0.out rfl) Try.underlying34 rfl (by kernel_rfl) ?_) | (refine wpList_store_row rfl 34 (.tmp 8) (.tmp 44) rfl (w.heap.size + 1 + 1) #[.int .i64 a0, .int .i64 a1, .int .u32 a2, .int .u32 a3, .int .u32 a4, .int .u32 a5, .int .i64 a6, .int .i64 a7, .int .u8 a8, .int .i64 a9, .int .i64 a10, .int .i64 s0, .int .i64 s1, .int .u32 s2, .int .u32 s3, .int .u32 s4, .int .u32 s5, .int .i64 s6, .int .i64 s7, .int .u8 s8, .int .i64 s9, .int .i64 s10, .slice A2 (n0 + nl) e2, .slice p1 n1 c1, .bool o0, .bool o1, .int .i64 m0, .int .i64 m1] rfl rfl 34 #[.int .i64 0, .int .i64 0, .int .u32 0, .int .u32 0, .int .u32 0, .int .u32 0, .int .i64 0, .int .i64 0, .int .u8 0, .int .i64 0, .int .i64 0, .int .i64 0, .int .i64 0, .int .u32 0, .int .u32 0, .int .u32 0, .int .u32 0, .int .i64 0, .int .i64 0, .int .u8 0, .int .i64 0, .int .i64 0, .slice none 0 0, .slice none 0 0, .bool false, .bool false, .int .i64 0, .int .i64 0] (heap_far (g := w.heap.size) G2.out (ne2 _)) (pair_size _ _ _ _ _ _ _ _ _ _ _ _ _ _ _ _ _ _ _ _ _ _ _ _ _ _ _ _ _ _ _ _ ) rfl (pair_one _ _ _ _ _ _ _ _ _ _ _ _ _ _ _ _ _ _ _ _ _ _ _ _ _ _ _ _ _ _ _ _ ) ?_))
  have hq : (q0 ++ l).length = n0 + nl := by rw [List.length_append, K0.out.1, KL.out.1]
  obtain ⟨E1, E2⟩ := ended (i := 22) (v := .slice A2 (n0 + nl) e2) (c' := #[.int .i64 a0, .int .i64 a1, .int .u32 a2, .int .u32 a3, .int .u32 a4, .int .u32 a5, .int .i64 a6, .int .i64 a7, .int .u8 a8, .int .i64 a9, .int .i64 a10, .int .i64 s0, .int .i64 s1, .int .u32 s2, .int .u32 s3, .int .u32 s4, .int .u32 s5, .int .i64 s6, .int .i64 s7, .int .u8 s8, .int .i64 s9, .int .i64 s10, .slice A2 (n0 + nl) e2, .slice p1 n1 c1, .bool o0, .bool o1, .int .i64 m0, .int .i64 m1]) B2.out N2.out G0.out G2.out
  have hl0 := K1.out.1
  refine bodyPost_ret (v := .agg #[.int .i64 a0, .int .i64 a1, .int .u32 a2, .int .u32 a3, .int .u32 a4, .int .u32 a5, .int .i64 a6, .int .i64 a7, .int .u8 a8, .int .i64 a9, .int .i64 a10, .int .i64 s0, .int .i64 s1, .int .u32 s2, .int .u32 s3, .int .u32 s4, .int .u32 s5, .int .i64 s6, .int .i64 s7, .int .u8 s8, .int .i64 s9, .int .i64 s10, .slice A2 (n0 + nl) e2, .slice p1 n1 c1, .bool o0, .bool o1, .int .i64 m0, .int .i64 m1]) (results_cell_row rfl _ _ (w.heap.size + 1 + 1) 34 #[.int .i64 a0, .int .i64 a1, .int .u32 a2, .int .u32 a3, .int .u32 a4, .int .u32 a5, .int .i64 a6, .int .i64 a7, .int .u8 a8, .int .i64 a9, .int .i64 a10, .int .i64 s0, .int .i64 s1, .int .u32 s2, .int .u32 s3, .int .u32 s4, .int .u32 s5, .int .i64 s6, .int .i64 s7, .int .u8 s8, .int .i64 s9, .int .i64 s10, .slice A2 (n0 + nl) e2, .slice p1 n1 c1, .bool o0, .bool o1, .int .i64 m0, .int .i64 m1] (0, 0) _ rfl (setRow_heap _ _ #[.int .i64 0, .int .i64 0, .int .u32 0, .int .u32 0, .int .u32 0, .int .u32 0, .int .i64 0, .int .i64 0, .int .u8 0, .int .i64 0, .int .i64 0, .int .i64 0, .int .i64 0, .int .u32 0, .int .u32 0, .int .u32 0, .int .u32 0, .int .i64 0, .int .i64 0, .int .u8 0, .int .i64 0, .int .i64 0, .slice none 0 0, .slice none 0 0, .bool false, .bool false, .int .i64 0, .int .i64 0] _ 34 (0, 0) (heap_far (g := w.heap.size) G2.out (ne2 _))) Try.underlying34 rfl (by kernel_rfl)) rfl ?_
  exact PPost.mk hq hl0 rfl ((Way.of_own Hown2.out).keep E2) (K1.out.below E1) Hle2.out Z1.out E1
set_option maxRecDepth 100000 in
set_option maxHeartbeats 2000000 in
theorem moved_1_on (a0 a1 a2 a3 a4 a5 a6 a7 a8 a9 a10 b0 b1 b2 b3 b4 b5 b6 b7 b8 b9 b10 s1 s2 s3 s4 s5 s6 s7 s8 s9 s10 m0 m1 : Int) (p0 p1 pl : Option Addr) (n0 n1 nl c0 c1 cl : Nat) (o0 : Bool) (q0 q1 l : List H)  (w : World) (k0 : Way w p0 n0 q0) (k1 : Way w p1 n1 q1) (kl : Way w pl nl l) (z0 : n0 ≤ c0) (z1 : n1 ≤ c1) (z2 : n0 + nl ≤ 1000) :
    Calls Try.prog 8 #[(Value.agg #[.int .i64 a0, .int .i64 a1, .int .u32 a2, .int .u32 a3, .int .u32 a4, .int .u32 a5, .int .i64 a6, .int .i64 a7, .int .u8 a8, .int .i64 a9, .int .i64 a10, .int .i64 b0, .int .i64 b1, .int .u32 b2, .int .u32 b3, .int .u32 b4, .int .u32 b5, .int .i64 b6, .int .i64 b7, .int .u8 b8, .int .i64 b9, .int .i64 b10, .slice p0 n0 c0, .slice p1 n1 c1, .bool o0, .bool false, .int .i64 m0, .int .i64 m1]), .int .i64 1, (Value.agg #[.int .i64 4, .int .i64 s1, .int .u32 s2, .int .u32 s3, .int .u32 s4, .int .u32 s5, .int .i64 s6, .int .i64 s7, .int .u8 s8, .int .i64 s9, .int .i64 s10]), .slice pl nl cl] w (PPost w ⟨⟨a0, a1, a2, a3, a4, a5, a6, a7, a8, a9, a10⟩, ⟨4, s1, s2, s3, s4, s5, s6, s7, s8, s9, s10⟩, q0 ++ l, q1, o0, true, m0, s6⟩) := by
  obtain ⟨i0, hi, hz0, hz1, hz2⟩ := info_parts Try.info52
  have K0 := Lib.hid k0; have K1 := Lib.hid k1; have KL := Lib.hid kl
  have Z0 := Lib.hid z0; have Z1 := Lib.hid z1
  have M1 : Hid (n0 ≤ maxLen) := Lib.hid (by simp only [maxLen]; omega)
  have M2 : Hid (n0 * 24 ≤ 140737488355328) := Lib.hid (by omega)
  have M3 : Hid (n0 + nl ≤ maxLen) := Lib.hid (by simp only [maxLen]; omega)
  have M4 : Hid ((n0 + nl) * 24 ≤ 140737488355328) := Lib.hid (by omega)
  have Z2 := Lib.hid z2
  clear k0 k1 kl z0 z1 z2
  go_enter Try.func8, Try.ntmps8
  go_wp2_with (first | (at_builtin; refine wpList_append_form _ ?g1 (.tmp 33) (.tmp 38) 29 ?g2 (w.heap.size + 1 + 1 + 1) 52 i0 _ 10 24 Try.underlying29 hi hz0 hz1 hz2 ?g3 ?g4 (.slice (some ⟨w.heap.size + 1 + 1 + 1, 0, none⟩) 0 0) 0 [] ?g5 ?g7 w.heap.size p0 n0 c0 (q0.flatMap H.cells) ?g6 ?g8 (H.one _) n0 (Nat.zero_add _) (q0.flatMap H.cells) rfl M1.out M2.out ?m3 ?_; (case g1 => rfl); (case g2 => rfl); (case g3 => rfl); (case g4 => decide); (case g5 => rfl); (case g6 => rfl); (case m3 => simp); (case g7 => exact ⟨rfl, .inr ⟨_, 0, _, rfl, Nat.le_refl _, (by repeat (first | (refine heap_new ?_; (simp; done)) | refine heap_alloc ?_ _ | refine heap_drew ?_)), Nat.le_refl _, by decide, rfl, rfl⟩⟩); (case g8 => exact K0.out.reads.below (by repeat (first | exact Below.refl _ _ | refine Below.drew ?_ | refine below_drewN ?_ _ | (refine Below.alloc ?_ ?hB _; (case hB => first | (simp; done) | (simp; omega)))))); intro A1 e1 w1 hown1 hg1 hat1 _; have Hown1 := Lib.hid hown1; obtain ⟨B1, R1, T1, N1, O1⟩ := app1 (w := w) (o0 := .cells #[.int .i64 a0, .int .i64 a1, .int .u32 a2, .int .u32 a3, .int .u32 a4, .int .u32 a5, .int .i64 a6, .int .i64 a7, .int .u8 a8, .int .i64 a9, .int .i64 a10, .int .i64 4, .int .i64 s1, .int .u32 s2, .int .u32 s3, .int .u32 s4, .int .u32 s5, .int .i64 s6, .int .i64 s7, .int .u8 s8, .int .i64 s9, .int .i64 s10, .slice p0 n0 c0, .slice p1 n1 c1, .bool o0, .bool true, .int .i64 m0, .int .i64 s6] 34) (o2 := .cells #[.int .i64 0, .int .i64 0, .int .u32 0, .int .u32 0, .int .u32 0, .int .u32 0, .int .i64 0, .int .i64 0, .int .u8 0, .int .i64 0, .int .i64 0, .int .i64 0, .int .i64 0, .int .u32 0, .int .u32 0, .int .u32 0, .int .u32 0, .int .i64 0, .int .i64 0, .int .u8 0, .int .i64 0, .int .i64 0, .slice none 0 0, .slice none 0 0, .bool false, .bool false, .int .i64 0, .int .i64 0] 34) (by repeat (first | exact Below.refl _ _ | refine Below.drew ?_ | refine below_drewN ?_ _ | (refine Below.alloc ?_ ?hB _; (case hB => first | (simp; done) | (simp; omega))))) (by simp) hg1 hat1 (by repeat (first | (refine heap_new ?_; (simp; done)) | refine heap_alloc ?_ _ | refine heap_drew ?_)) (by repeat (first | (refine heap_new ?_; (simp; done)) | refine heap_alloc ?_ _ | refine heap_drew ?_)); clear hown1 hg1 hat1) | (at_builtin; refine wpList_append_form _ ?g1 (.tmp 39) (.tmp 40) 29 ?g2 (w.heap.size + 1 + 1 + 1) 52 i0 _ 10 24 Try.underlying29 hi hz0 hz1 hz2 ?g3 ?g4 (.slice A1 n0 e1) n0 (q0.flatMap H.cells) ?g5 Hown1.out w.heap.size pl nl cl (l.flatMap H.cells) ?g6 ?g8 (H.one _) (n0 + nl) rfl ((q0 ++ l).flatMap H.cells) (by rw [List.flatMap_append]) M3.out M4.out ?m3 ?_; (case g1 => rfl); (case g2 => rfl); (case g3 => rfl); (case g4 => decide); (case g5 => rfl); (case g6 => rfl); (case m3 => exact N1.out); (case g8 => exact (KL.out.reads).below B1.out); intro A2 e2 w2 hown2 hg2 hat2 hle2; obtain ⟨⟨r0, f0⟩, G0, G2, B2, N2⟩ := app2 B1.out R1.out T1.out N1.out O1.out hg2; have Hown2 := Lib.hid hown2; have Hle2 := Lib.hid hle2; clear hown2 hg2 hat2 hle2) | (refine wpList_load_row rfl 34 (.tmp 4) rfl w.heap.size rfl 34 #[.int .i64 a0, .int .i64 a1, .int .u32 a2, .int .u32 a3, .int .u32 a4, .int .u32 a5, .int .i64 a6, .int .i64 a7, .int .u8 a8, .int .i64 a9, .int .i64 a10, .int .i64 4, .int .i64 s1, .int .u32 s2, .int .u32 s3, .int .u32 s4, .int .u32 s5, .int .i64 s6, .int .i64 s7, .int .u8 s8, .int .i64 s9, .int .i64 s10, .slice A2 (n0 + nl) e2, .slice p1 n1 c1, .bool o0, .bool true, .int .i64 m0, .int .i64 s6] (0, 0) _ (heap_set G0.out rfl) Try.underlying34 rfl (by kernel_rfl) ?_) | (refine wpList_store_row rfl 34 (.tmp 8) (.tmp 44) rfl (w.heap.size + 1 + 1) #[.int .i64 a0, .int .i64 a1, .int .u32 a2, .int .u32 a3, .int .u32 a4, .int .u32 a5, .int .i64 a6, .int .i64 a7, .int .u8 a8, .int .i64 a9, .int .i64 a10, .int .i64 4, .int .i64 s1, .int .u32 s2, .int .u32 s3, .int .u32 s4, .int .u32 s5, .int .i64 s6, .int .i64 s7, .int .u8 s8, .int .i64 s9, .int .i64 s10, .slice A2 (n0 + nl) e2, .slice p1 n1 c1, .bool o0, .bool true, .int .i64 m0, .int .i64 s6] rfl rfl 34 #[.int .i64 0, .int .i64 0, .int .u32 0, .int .u32 0, .int .u32 0, .int .u32 0, .int .i64 0, .int .i64 0, .int .u8 0, .int .i64 0, .int .i64 0, .int .i64 0, .int .i64 0, .int .u32 0, .int .u32 0, .int .u32 0, .int .u32 0, .int .i64 0, .int .i64 0, .int .u8 0, .int .i64 0, .int .i64 0, .slice none 0 0, .slice none 0 0, .bool false, .bool false, .int .i64 0, .int .i64 0] (heap_far (g := w.heap.size) G2.out (ne2 _)) (pair_size _ _ _ _ _ _ _ _ _ _ _ _ _ _ _ _ _ _ _ _ _ _ _ _ _ _ _ _ _ _ _ _ ) rfl (pair_one _ _ _ _ _ _ _ _ _ _ _ _ _ _ _ _ _ _ _ _ _ _ _ _ _ _ _ _ _ _ _ _ ) ?_))
  have hq : (q0 ++ l).length = n0 + nl := by rw [List.length_append, K0.out.1, KL.out.1]
  obtain ⟨E1, E2⟩ := ended (i := 22) (v := .slice A2 (n0 + nl) e2) (c' := #[.int .i64 a0, .int .i64 a1, .int .u32 a2, .int .u32 a3, .int .u32 a4, .int .u32 a5, .int .i64 a6, .int .i64 a7, .int .u8 a8, .int .i64 a9, .int .i64 a10, .int .i64 4, .int .i64 s1, .int .u32 s2, .int .u32 s3, .int .u32 s4, .int .u32 s5, .int .i64 s6, .int .i64 s7, .int .u8 s8, .int .i64 s9, .int .i64 s10, .slice A2 (n0 + nl) e2, .slice p1 n1 c1, .bool o0, .bool true, .int .i64 m0, .int .i64 s6]) B2.out N2.out G0.out G2.out
  have hl0 := K1.out.1
  refine bodyPost_ret (v := .agg #[.int .i64 a0, .int .i64 a1, .int .u32 a2, .int .u32 a3, .int .u32 a4, .int .u32 a5, .int .i64 a6, .int .i64 a7, .int .u8 a8, .int .i64 a9, .int .i64 a10, .int .i64 4, .int .i64 s1, .int .u32 s2, .int .u32 s3, .int .u32 s4, .int .u32 s5, .int .i64 s6, .int .i64 s7, .int .u8 s8, .int .i64 s9, .int .i64 s10, .slice A2 (n0 + nl) e2, .slice p1 n1 c1, .bool o0, .bool true, .int .i64 m0, .int .i64 s6]) (results_cell_row rfl _ _ (w.heap.size + 1 + 1) 34 #[.int .i64 a0, .int .i64 a1, .int .u32 a2, .int .u32 a3, .int .u32 a4, .int .u32 a5, .int .i64 a6, .int .i64 a7, .int .u8 a8, .int .i64 a9, .int .i64 a10, .int .i64 4, .int .i64 s1, .int .u32 s2, .int .u32 s3, .int .u32 s4, .int .u32 s5, .int .i64 s6, .int .i64 s7, .int .u8 s8, .int .i64 s9, .int .i64 s10, .slice A2 (n0 + nl) e2, .slice p1 n1 c1, .bool o0, .bool true, .int .i64 m0, .int .i64 s6] (0, 0) _ rfl (setRow_heap _ _ #[.int .i64 0, .int .i64 0, .int .u32 0, .int .u32 0, .int .u32 0, .int .u32 0, .int .i64 0, .int .i64 0, .int .u8 0, .int .i64 0, .int .i64 0, .int .i64 0, .int .i64 0, .int .u32 0, .int .u32 0, .int .u32 0, .int .u32 0, .int .i64 0, .int .i64 0, .int .u8 0, .int .i64 0, .int .i64 0, .slice none 0 0, .slice none 0 0, .bool false, .bool false, .int .i64 0, .int .i64 0] _ 34 (0, 0) (heap_far (g := w.heap.size) G2.out (ne2 _))) Try.underlying34 rfl (by kernel_rfl)) rfl ?_
  exact PPost.mk hq hl0 rfl ((Way.of_own Hown2.out).keep E2) (K1.out.below E1) Hle2.out Z1.out E1
set_option maxRecDepth 100000 in
set_option maxHeartbeats 2000000 in
theorem moved_1_was (a0 a1 a2 a3 a4 a5 a6 a7 a8 a9 a10 b0 b1 b2 b3 b4 b5 b6 b7 b8 b9 b10 s1 s2 s3 s4 s5 s6 s7 s8 s9 s10 m0 m1 : Int) (p0 p1 pl : Option Addr) (n0 n1 nl c0 c1 cl : Nat) (o0 : Bool) (q0 q1 l : List H)  (w : World) (k0 : Way w p0 n0 q0) (k1 : Way w p1 n1 q1) (kl : Way w pl nl l) (z0 : n0 ≤ c0) (z1 : n1 ≤ c1) (z2 : n0 + nl ≤ 1000) :
    Calls Try.prog 8 #[(Value.agg #[.int .i64 a0, .int .i64 a1, .int .u32 a2, .int .u32 a3, .int .u32 a4, .int .u32 a5, .int .i64 a6, .int .i64 a7, .int .u8 a8, .int .i64 a9, .int .i64 a10, .int .i64 b0, .int .i64 b1, .int .u32 b2, .int .u32 b3, .int .u32 b4, .int .u32 b5, .int .i64 b6, .int .i64 b7, .int .u8 b8, .int .i64 b9, .int .i64 b10, .slice p0 n0 c0, .slice p1 n1 c1, .bool o0, .bool true, .int .i64 m0, .int .i64 m1]), .int .i64 1, (Value.agg #[.int .i64 4, .int .i64 s1, .int .u32 s2, .int .u32 s3, .int .u32 s4, .int .u32 s5, .int .i64 s6, .int .i64 s7, .int .u8 s8, .int .i64 s9, .int .i64 s10]), .slice pl nl cl] w (PPost w ⟨⟨a0, a1, a2, a3, a4, a5, a6, a7, a8, a9, a10⟩, ⟨4, s1, s2, s3, s4, s5, s6, s7, s8, s9, s10⟩, q0 ++ l, q1, o0, true, m0, m1⟩) := by
  obtain ⟨i0, hi, hz0, hz1, hz2⟩ := info_parts Try.info52
  have K0 := Lib.hid k0; have K1 := Lib.hid k1; have KL := Lib.hid kl
  have Z0 := Lib.hid z0; have Z1 := Lib.hid z1
  have M1 : Hid (n0 ≤ maxLen) := Lib.hid (by simp only [maxLen]; omega)
  have M2 : Hid (n0 * 24 ≤ 140737488355328) := Lib.hid (by omega)
  have M3 : Hid (n0 + nl ≤ maxLen) := Lib.hid (by simp only [maxLen]; omega)
  have M4 : Hid ((n0 + nl) * 24 ≤ 140737488355328) := Lib.hid (by omega)
  have Z2 := Lib.hid z2
  clear k0 k1 kl z0 z1 z2
  go_enter Try.func8, Try.ntmps8
  go_wp2_with (first | (at_builtin; refine wpList_append_form _ ?g1 (.tmp 33) (.tmp 38) 29 ?g2 (w.heap.size + 1 + 1 + 1) 52 i0 _ 10 24 Try.underlying29 hi hz0 hz1 hz2 ?g3 ?g4 (.slice (some ⟨w.heap.size + 1 + 1 + 1, 0, none⟩) 0 0) 0 [] ?g5 ?g7 w.heap.size p0 n0 c0 (q0.flatMap H.cells) ?g6 ?g8 (H.one _) n0 (Nat.zero_add _) (q0.flatMap H.cells) rfl M1.out M2.out ?m3 ?_; (case g1 => rfl); (case g2 => rfl); (case g3 => rfl); (case g4 => decide); (case g5 => rfl); (case g6 => rfl); (case m3 => simp); (case g7 => exact ⟨rfl, .inr ⟨_, 0, _, rfl, Nat.le_refl _, (by repeat (first | (refine heap_new ?_; (simp; done)) | refine heap_alloc ?_ _ | refine heap_drew ?_)), Nat.le_refl _, by decide, rfl, rfl⟩⟩); (case g8 => exact K0.out.reads.below (by repeat (first | exact Below.refl _ _ | refine Below.drew ?_ | refine below_drewN ?_ _ | (refine Below.alloc ?_ ?hB _; (case hB => first | (simp; done) | (simp; omega)))))); intro A1 e1 w1 hown1 hg1 hat1 _; have Hown1 := Lib.hid hown1; obtain ⟨B1, R1, T1, N1, O1⟩ := app1 (w := w) (o0 := .cells #[.int .i64 a0, .int .i64 a1, .int .u32 a2, .int .u32 a3, .int .u32 a4, .int .u32 a5, .int .i64 a6, .int .i64 a7, .int .u8 a8, .int .i64 a9, .int .i64 a10, .int .i64 4, .int .i64 s1, .int .u32 s2, .int .u32 s3, .int .u32 s4, .int .u32 s5, .int .i64 s6, .int .i64 s7, .int .u8 s8, .int .i64 s9, .int .i64 s10, .slice p0 n0 c0, .slice p1 n1 c1, .bool o0, .bool true, .int .i64 m0, .int .i64 m1] 34) (o2 := .cells #[.int .i64 0, .int .i64 0, .int .u32 0, .int .u32 0, .int .u32 0, .int .u32 0, .int .i64 0, .int .i64 0, .int .u8 0, .int .i64 0, .int .i64 0, .int .i64 0, .int .i64 0, .int .u32 0, .int .u32 0, .int .u32 0, .int .u32 0, .int .i64 0, .int .i64 0, .int .u8 0, .int .i64 0, .int .i64 0, .slice none 0 0, .slice none 0 0, .bool false, .bool false, .int .i64 0, .int .i64 0] 34) (by repeat (first | exact Below.refl _ _ | refine Below.drew ?_ | refine below_drewN ?_ _ | (refine Below.alloc ?_ ?hB _; (case hB => first | (simp; done) | (simp; omega))))) (by simp) hg1 hat1 (by repeat (first | (refine heap_new ?_; (simp; done)) | refine heap_alloc ?_ _ | refine heap_drew ?_)) (by repeat (first | (refine heap_new ?_; (simp; done)) | refine heap_alloc ?_ _ | refine heap_drew ?_)); clear hown1 hg1 hat1) | (at_builtin; refine wpList_append_form _ ?g1 (.tmp 39) (.tmp 40) 29 ?g2 (w.heap.size + 1 + 1 + 1) 52 i0 _ 10 24 Try.underlying29 hi hz0 hz1 hz2 ?g3 ?g4 (.slice A1 n0 e1) n0 (q0.flatMap H.cells) ?g5 Hown1.out w.heap.size pl nl cl (l.flatMap H.cells) ?g6 ?g8 (H.one _) (n0 + nl) rfl ((q0 ++ l).flatMap H.cells) (by rw [List.flatMap_append]) M3.out M4.out ?m3 ?_; (case g1 => rfl); (case g2 => rfl); (case g3 => rfl); (case g4 => decide); (case g5 => rfl); (case g6 => rfl); (case m3 => exact N1.out); (case g8 => exact (KL.out.reads).below B1.out); intro A2 e2 w2 hown2 hg2 hat2 hle2; obtain ⟨⟨r0, f0⟩, G0, G2, B2, N2⟩ := app2 B1.out R1.out T1.out N1.out O1.out hg2; have Hown2 := Lib.hid hown2; have Hle2 := Lib.hid hle2; clear hown2 hg2 hat2 hle2) | (refine wpList_load_row rfl 34 (.tmp 4) rfl w.heap.size rfl 34 #[.int .i64 a0, .int .i64 a1, .int .u32 a2, .int .u32 a3, .int .u32 a4, .int .u32 a5, .int .i64 a6, .int .i64 a7, .int .u8 a8, .int .i64 a9, .int .i64 a10, .int .i64 4, .int .i64 s1, .int .u32 s2, .int .u32 s3, .int .u32 s4, .int .u32 s5, .int .i64 s6, .int .i64 s7, .int .u8 s8, .int .i64 s9, .int .i64 s10, .slice A2 (n0 + nl) e2, .slice p1 n1 c1, .bool o0, .bool true, .int .i64 m0, .int .i64 m1] (0, 0) _ (heap_set G0.out rfl) Try.underlying34 rfl (by kernel_rfl) ?_) | (refine wpList_store_row rfl 34 (.tmp 8) (.tmp 44) rfl (w.heap.size + 1 + 1) #[.int .i64 a0, .int .i64 a1, .int .u32 a2, .int .u32 a3, .int .u32 a4, .int .u32 a5, .int .i64 a6, .int .i64 a7, .int .u8 a8, .int .i64 a9, .int .i64 a10, .int .i64 4, .int .i64 s1, .int .u32 s2, .int .u32 s3, .int .u32 s4, .int .u32 s5, .int .i64 s6, .int .i64 s7, .int .u8 s8, .int .i64 s9, .int .i64 s10, .slice A2 (n0 + nl) e2, .slice p1 n1 c1, .bool o0, .bool true, .int .i64 m0, .int .i64 m1] rfl rfl 34 #[.int .i64 0, .int .i64 0, .int .u32 0, .int .u32 0, .int .u32 0, .int .u32 0, .int .i64 0, .int .i64 0, .int .u8 0, .int .i64 0, .int .i64 0, .int .i64 0, .int .i64 0, .int .u32 0, .int .u32 0, .int .u32 0, .int .u32 0, .int .i64 0, .int .i64 0, .int .u8 0, .int .i64 0, .int .i64 0, .slice none 0 0, .slice none 0 0, .bool false, .bool false, .int .i64 0, .int .i64 0] (heap_far (g := w.heap.size) G2.out (ne2 _)) (pair_size _ _ _ _ _ _ _ _ _ _ _ _ _ _ _ _ _ _ _ _ _ _ _ _ _ _ _ _ _ _ _ _ ) rfl (pair_one _ _ _ _ _ _ _ _ _ _ _ _ _ _ _ _ _ _ _ _ _ _ _ _ _ _ _ _ _ _ _ _ ) ?_))
  have hq : (q0 ++ l).length = n0 + nl := by rw [List.length_append, K0.out.1, KL.out.1]
  obtain ⟨E1, E2⟩ := ended (i := 22) (v := .slice A2 (n0 + nl) e2) (c' := #[.int .i64 a0, .int .i64 a1, .int .u32 a2, .int .u32 a3, .int .u32 a4, .int .u32 a5, .int .i64 a6, .int .i64 a7, .int .u8 a8, .int .i64 a9, .int .i64 a10, .int .i64 4, .int .i64 s1, .int .u32 s2, .int .u32 s3, .int .u32 s4, .int .u32 s5, .int .i64 s6, .int .i64 s7, .int .u8 s8, .int .i64 s9, .int .i64 s10, .slice A2 (n0 + nl) e2, .slice p1 n1 c1, .bool o0, .bool true, .int .i64 m0, .int .i64 m1]) B2.out N2.out G0.out G2.out
  have hl0 := K1.out.1
  refine bodyPost_ret (v := .agg #[.int .i64 a0, .int .i64 a1, .int .u32 a2, .int .u32 a3, .int .u32 a4, .int .u32 a5, .int .i64 a6, .int .i64 a7, .int .u8 a8, .int .i64 a9, .int .i64 a10, .int .i64 4, .int .i64 s1, .int .u32 s2, .int .u32 s3, .int .u32 s4, .int .u32 s5, .int .i64 s6, .int .i64 s7, .int .u8 s8, .int .i64 s9, .int .i64 s10, .slice A2 (n0 + nl) e2, .slice p1 n1 c1, .bool o0, .bool true, .int .i64 m0, .int .i64 m1]) (results_cell_row rfl _ _ (w.heap.size + 1 + 1) 34 #[.int .i64 a0, .int .i64 a1, .int .u32 a2, .int .u32 a3, .int .u32 a4, .int .u32 a5, .int .i64 a6, .int .i64 a7, .int .u8 a8, .int .i64 a9, .int .i64 a10, .int .i64 4, .int .i64 s1, .int .u32 s2, .int .u32 s3, .int .u32 s4, .int .u32 s5, .int .i64 s6, .int .i64 s7, .int .u8 s8, .int .i64 s9, .int .i64 s10, .slice A2 (n0 + nl) e2, .slice p1 n1 c1, .bool o0, .bool true, .int .i64 m0, .int .i64 m1] (0, 0) _ rfl (setRow_heap _ _ #[.int .i64 0, .int .i64 0, .int .u32 0, .int .u32 0, .int .u32 0, .int .u32 0, .int .i64 0, .int .i64 0, .int .u8 0, .int .i64 0, .int .i64 0, .int .i64 0, .int .i64 0, .int .u32 0, .int .u32 0, .int .u32 0, .int .u32 0, .int .i64 0, .int .i64 0, .int .u8 0, .int .i64 0, .int .i64 0, .slice none 0 0, .slice none 0 0, .bool false, .bool false, .int .i64 0, .int .i64 0] _ 34 (0, 0) (heap_far (g := w.heap.size) G2.out (ne2 _))) Try.underlying34 rfl (by kernel_rfl)) rfl ?_
  exact PPost.mk hq hl0 rfl ((Way.of_own Hown2.out).keep E2) (K1.out.below E1) Hle2.out Z1.out E1
theorem moved_0 (a0 a1 a2 a3 a4 a5 a6 a7 a8 a9 a10 b0 b1 b2 b3 b4 b5 b6 b7 b8 b9 b10 s0 s1 s2 s3 s4 s5 s6 s7 s8 s9 s10 m0 m1 : Int) (p0 p1 pl : Option Addr) (n0 n1 nl c0 c1 cl : Nat) (o0 o1 : Bool) (q0 q1 l : List H) (w : World) (k0 : Way w p0 n0 q0) (k1 : Way w p1 n1 q1) (kl : Way w pl nl l) (z0 : n0 ≤ c0) (z1 : n1 ≤ c1) (z2 : n1 + nl ≤ 1000) :
    Calls Try.prog 8 #[(Value.agg #[.int .i64 a0, .int .i64 a1, .int .u32 a2, .int .u32 a3, .int .u32 a4, .int .u32 a5, .int .i64 a6, .int .i64 a7, .int .u8 a8, .int .i64 a9, .int .i64 a10, .int .i64 b0, .int .i64 b1, .int .u32 b2, .int .u32 b3, .int .u32 b4, .int .u32 b5, .int .i64 b6, .int .i64 b7, .int .u8 b8, .int .i64 b9, .int .i64 b10, .slice p0 n0 c0, .slice p1 n1 c1, .bool o0, .bool o1, .int .i64 m0, .int .i64 m1]), .int .i64 0, (Value.agg #[.int .i64 s0, .int .i64 s1, .int .u32 s2, .int .u32 s3, .int .u32 s4, .int .u32 s5, .int .i64 s6, .int .i64 s7, .int .u8 s8, .int .i64 s9, .int .i64 s10]), .slice pl nl cl] w (PPost w (moved ⟨⟨a0, a1, a2, a3, a4, a5, a6, a7, a8, a9, a10⟩, ⟨b0, b1, b2, b3, b4, b5, b6, b7, b8, b9, b10⟩, q0, q1, o0, o1, m0, m1⟩ 0 ⟨s0, s1, s2, s3, s4, s5, s6, s7, s8, s9, s10⟩ l)) := by
  by_cases h4 : s0 = 4
  · subst h4
    cases o0
    · exact moved_0_on a0 a1 a2 a3 a4 a5 a6 a7 a8 a9 a10 b0 b1 b2 b3 b4 b5 b6 b7 b8 b9 b10 s1 s2 s3 s4 s5 s6 s7 s8 s9 s10 m0 m1 p0 p1 pl n0 n1 nl c0 c1 cl o1 q0 q1 l w k0 k1 kl z0 z1 z2
    · exact moved_0_was a0 a1 a2 a3 a4 a5 a6 a7 a8 a9 a10 b0 b1 b2 b3 b4 b5 b6 b7 b8 b9 b10 s1 s2 s3 s4 s5 s6 s7 s8 s9 s10 m0 m1 p0 p1 pl n0 n1 nl c0 c1 cl o1 q0 q1 l w k0 k1 kl z0 z1 z2
  · have e : moved ⟨⟨a0, a1, a2, a3, a4, a5, a6, a7, a8, a9, a10⟩, ⟨b0, b1, b2, b3, b4, b5, b6, b7, b8, b9, b10⟩, q0, q1, o0, o1, m0, m1⟩ 0 ⟨s0, s1, s2, s3, s4, s5, s6, s7, s8, s9, s10⟩ l = ⟨⟨s0, s1, s2, s3, s4, s5, s6, s7, s8, s9, s10⟩, ⟨b0, b1, b2, b3, b4, b5, b6, b7, b8, b9, b10⟩, q0, (q1 ++ l), o0, o1, m0, m1⟩ := by simp [moved, h4]
    rw [e]
    exact moved_0_no a0 a1 a2 a3 a4 a5 a6 a7 a8 a9 a10 b0 b1 b2 b3 b4 b5 b6 b7 b8 b9 b10 s0 s1 s2 s3 s4 s5 s6 s7 s8 s9 s10 m0 m1 p0 p1 pl n0 n1 nl c0 c1 cl o0 o1 q0 q1 l h4 w k0 k1 kl z0 z1 z2
theorem moved_1 (a0 a1 a2 a3 a4 a5 a6 a7 a8 a9 a10 b0 b1 b2 b3 b4 b5 b6 b7 b8 b9 b10 s0 s1 s2 s3 s4 s5 s6 s7 s8 s9 s10 m0 m1 : Int) (p0 p1 pl : Option Addr) (n0 n1 nl c0 c1 cl : Nat) (o0 o1 : Bool) (q0 q1 l : List H) (w : World) (k0 : Way w p0 n0 q0) (k1 : Way w p1 n1 q1) (kl : Way w pl nl l) (z0 : n0 ≤ c0) (z1 : n1 ≤ c1) (z2 : n0 + nl ≤ 1000) :
    Calls Try.prog 8 #[(Value.agg #[.int .i64 a0, .int .i64 a1, .int .u32 a2, .int .u32 a3, .int .u32 a4, .int .u32 a5, .int .i64 a6, .int .i64 a7, .int .u8 a8, .int .i64 a9, .int .i64 a10, .int .i64 b0, .int .i64 b1, .int .u32 b2, .int .u32 b3, .int .u32 b4, .int .u32 b5, .int .i64 b6, .int .i64 b7, .int .u8 b8, .int .i64 b9, .int .i64 b10, .slice p0 n0 c0, .slice p1 n1 c1, .bool o0, .bool o1, .int .i64 m0, .int .i64 m1]), .int .i64 1, (Value.agg #[.int .i64 s0, .int .i64 s1, .int .u32 s2, .int .u32 s3, .int .u32 s4, .int .u32 s5, .int .i64 s6, .int .i64 s7, .int .u8 s8, .int .i64 s9, .int .i64 s10]), .slice pl nl cl] w (PPost w (moved ⟨⟨a0, a1, a2, a3, a4, a5, a6, a7, a8, a9, a10⟩, ⟨b0, b1, b2, b3, b4, b5, b6, b7, b8, b9, b10⟩, q0, q1, o0, o1, m0, m1⟩ 1 ⟨s0, s1, s2, s3, s4, s5, s6, s7, s8, s9, s10⟩ l)) := by
  by_cases h4 : s0 = 4
  · subst h4
    cases o1
    · exact moved_1_on a0 a1 a2 a3 a4 a5 a6 a7 a8 a9 a10 b0 b1 b2 b3 b4 b5 b6 b7 b8 b9 b10 s1 s2 s3 s4 s5 s6 s7 s8 s9 s10 m0 m1 p0 p1 pl n0 n1 nl c0 c1 cl o0 q0 q1 l w k0 k1 kl z0 z1 z2
    · exact moved_1_was a0 a1 a2 a3 a4 a5 a6 a7 a8 a9 a10 b0 b1 b2 b3 b4 b5 b6 b7 b8 b9 b10 s1 s2 s3 s4 s5 s6 s7 s8 s9 s10 m0 m1 p0 p1 pl n0 n1 nl c0 c1 cl o0 q0 q1 l w k0 k1 kl z0 z1 z2
  · have e : moved ⟨⟨a0, a1, a2, a3, a4, a5, a6, a7, a8, a9, a10⟩, ⟨b0, b1, b2, b3, b4, b5, b6, b7, b8, b9, b10⟩, q0, q1, o0, o1, m0, m1⟩ 1 ⟨s0, s1, s2, s3, s4, s5, s6, s7, s8, s9, s10⟩ l = ⟨⟨a0, a1, a2, a3, a4, a5, a6, a7, a8, a9, a10⟩, ⟨s0, s1, s2, s3, s4, s5, s6, s7, s8, s9, s10⟩, (q0 ++ l), q1, o0, o1, m0, m1⟩ := by simp [moved, h4]
    rw [e]
    exact moved_1_no a0 a1 a2 a3 a4 a5 a6 a7 a8 a9 a10 b0 b1 b2 b3 b4 b5 b6 b7 b8 b9 b10 s0 s1 s2 s3 s4 s5 s6 s7 s8 s9 s10 m0 m1 p0 p1 pl n0 n1 nl c0 c1 cl o0 o1 q0 q1 l h4 w k0 k1 kl z0 z1 z2
end Go.Proofs.Ytbklomnlhpbhnaa
