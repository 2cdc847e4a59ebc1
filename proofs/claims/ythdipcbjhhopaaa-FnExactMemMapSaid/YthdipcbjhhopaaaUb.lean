import Derived.Test.YthdipcbjhhopaaaUa
namespace Go.Qm
open Go.Cq Go.Cq.D Go.RowKit Go.Proofs Go.ChangeShapes Go.WideShapes Go.ChangeAt
set_option maxRecDepth 10000
section
variable {H : Type} {enc : TypeId × Value → H} {W : World} {sp : Nat → Bool} {held : Bool}
theorem c3 : Try.prog.cellsOf 3 = 1 := by kernel_rfl
theorem c4 : Try.prog.cellsOf 4 = 1 := by kernel_rfl
theorem c9 : Try.prog.cellsOf 9 = 1 := by kernel_rfl
theorem c22 : Try.prog.cellsOf 22 = 1 := by kernel_rfl
theorem c23 : Try.prog.cellsOf 23 = 1 := by kernel_rfl
theorem c25 : Try.prog.cellsOf 25 = 2 := by kernel_rfl
theorem c26 : Try.prog.cellsOf 26 = 1 := by kernel_rfl
theorem c28 : Try.prog.cellsOf 28 = 6 := by kernel_rfl
theorem c77 : Try.prog.cellsOf 77 = 4 := by kernel_rfl
theorem c150 : Try.prog.cellsOf 150 = 1 := by kernel_rfl
theorem c151 : Try.prog.cellsOf 151 = 1 := by kernel_rfl
theorem c153 : Try.prog.cellsOf 153 = 3 := by kernel_rfl
theorem c198 : Try.prog.cellsOf 198 = 4 := by kernel_rfl
abbrev HasB (W : World) : Prop := ∃ (B : Nat) (c : Array Value) (e : TypeId) (fr : Nat × Nat), W.heap[B]? = some (.cells c e fr)
instance : Inhabited Area := ⟨⟨0, 0, false, false⟩⟩
instance : Inhabited Slot := ⟨⟨0, 0, false, false⟩⟩
instance : Inhabited Space := ⟨⟨false, [], []⟩⟩
theorem ev_int {n : Nat} {c : Value} {x : DataW H × List MemPlace} (h : DataW.trod enc Try.prog W 0 sp held n 3 [c] = some x) : ∃ k : Int, c = .int .i64 k := by
 obtain ⟨k, h1, -, -⟩ := DataW.trod_int Try.underlying3 h
 simp only [List.cons.injEq, and_true] at h1
 exact ⟨k, h1⟩
theorem ev_bool {n : Nat} {c : Value} {x : DataW H × List MemPlace} (h : DataW.trod enc Try.prog W 0 sp held n 4 [c] = some x) : ∃ k : Bool, c = .bool k := by
 obtain ⟨k, h1, -⟩ := DataW.trod_bool Try.underlying4 h
 simp only [List.cons.injEq, and_true] at h1
 exact ⟨k, h1⟩
theorem fld {fs : Array Field} {xs : List (DataW H × List MemPlace)} {n : Nat} {cs : List Value} (h1 : xs.length = fs.size) (h2 : ∀ (i : Nat) (f : Field), fs[i]? = some f → DataW.trod enc Try.prog W 0 sp held n f.type ((cs.drop f.offset).take (Try.prog.cellsOf f.type)) = xs[i]?)
  (i : Nat) {t off m : Nat} (hf : (fs[i]?).map (fun f => (f.type, f.offset)) = some (t, off)) (hm : Try.prog.cellsOf t = m) : ∃ y, DataW.trod enc Try.prog W 0 sp held n t ((cs.drop off).take m) = some y := by
 simp only [Option.map_eq_some_iff, Prod.mk.injEq] at hf
 obtain ⟨f, hf, rfl, rfl⟩ := hf
 have hlt := (Array.getElem?_eq_some_iff.1 hf).1
 rw [← hm]
 exact ⟨_, (h2 i f hf).trans (List.getElem?_eq_getElem (by omega))⟩
theorem one_cell {cs : List Value} (h : cs.length = 1) : ∃ a, cs = [a] := by
 match cs, h with
 | [a], _ => exact ⟨a, rfl⟩
theorem three_cells {cs : List Value} (h : cs.length = 3) : ∃ a b c, cs = [a, b, c] := by
 match cs, h with
 | [a, b, c], _ => exact ⟨a, b, c, rfl⟩
theorem four_cells {cs : List Value} (h : cs.length = 4) : ∃ a b c d, cs = [a, b, c, d] := by
 match cs, h with
 | [a, b, c, d], _ => exact ⟨a, b, c, d, rfl⟩
theorem six_cells {cs : List Value} (h : cs.length = 6) : ∃ a b c d e f, cs = [a, b, c, d, e, f] := by
 match cs, h with
 | [a, b, c, d, e, f], _ => exact ⟨a, b, c, d, e, f, rfl⟩
theorem el_four {t : TypeId} {fs : Array Field} (hu : Try.prog.underlying t = some (.struct fs)) {n1 n2 n3 n4 : String} {e1 e2 e3 e4 : Bool} {g1 g2 g3 g4 p1 p2 p3 p4 : String} {o1 o2 o3 o4 : Nat}
  (hfs : fs = #[⟨n1, 3, 0, e1, g1, p1, o1⟩, ⟨n2, 3, 1, e2, g2, p2, o2⟩, ⟨n3, 4, 2, e3, g3, p3, o3⟩, ⟨n4, 4, 3, e4, g4, p4, o4⟩]) {n : Nat} {cs : List Value} {x : DataW H × List MemPlace} (hl : cs.length = 4) (h : DataW.trod enc Try.prog W 0 sp held n t cs = some x) :
  ∃ (a b : Int) (c d : Bool), cs = [.int .i64 a, .int .i64 b, .bool c, .bool d] := by
 obtain ⟨a, b, c, d, rfl⟩ := four_cells hl
 subst hfs
 obtain ⟨xs, m, -, -, -, h1, h2⟩ := DataW.trod_struct hu h
 obtain ⟨y0, k0⟩ := fld h1 h2 0 (t := 3) (off := 0) rfl c3
 obtain ⟨y1, k1⟩ := fld h1 h2 1 (t := 3) (off := 1) rfl c3
 obtain ⟨y2, k2⟩ := fld h1 h2 2 (t := 4) (off := 2) rfl c4
 obtain ⟨y3, k3⟩ := fld h1 h2 3 (t := 4) (off := 3) rfl c4
 obtain ⟨i, rfl⟩ := ev_int k0
 obtain ⟨j, rfl⟩ := ev_int k1
 obtain ⟨p, rfl⟩ := ev_bool k2
 obtain ⟨q, rfl⟩ := ev_bool k3
 exact ⟨i, j, p, q, rfl⟩
theorem row_four {a b : Int} {c d : Bool} : ∀ (k : Nat) p, ([eI a, eI b, eB c, eB d] : List PV)[k]? = some p → ∃ v, ([.int .i64 a, .int .i64 b, .bool c, .bool d] : List Value)[k]? = some v ∧ WV W p v := by
 intro k p hp
 match k, hp with
 | 0, hp => simp only [List.getElem?_cons_zero, Option.some.injEq] at hp; subst hp; exact ⟨_, rfl, .int⟩
 | 1, hp => simp only [List.getElem?_cons_succ, List.getElem?_cons_zero, Option.some.injEq] at hp; subst hp; exact ⟨_, rfl, .int⟩
 | 2, hp => simp only [List.getElem?_cons_succ, List.getElem?_cons_zero, Option.some.injEq] at hp; subst hp; exact ⟨_, rfl, .bool⟩
 | 3, hp => simp only [List.getElem?_cons_succ, List.getElem?_cons_zero, Option.some.injEq] at hp; subst hp; exact ⟨_, rfl, .bool⟩
 | k + 4, hp => simp at hp
theorem areas_of (hB : HasB W) {v : Value} {n : Nat} {x : DataW H × List MemPlace} (h : DataW.trod enc Try.prog W 0 (fun _ => true) held n 150 [v] = some x) : ∃ l : List Area, l.length ≤ maxLen ∧ WV W (.sl 4 (l.map rA)) v := by
 obtain ⟨l, h1, -, h2⟩ := row_of (row := rA) (good := fun _ => True) Try.underlying150 c77 (by decide) (fun n cs x _ hl h => by
  obtain ⟨a, b, c, d, rfl⟩ := el_four Try.underlying77 rfl hl h
  exact ⟨⟨a, b, c, d⟩, rfl, trivial, row_four⟩) hB h
 exact ⟨l, h1, h2⟩
theorem slots_of (hB : HasB W) {v : Value} {n : Nat} {x : DataW H × List MemPlace} (h : DataW.trod enc Try.prog W 0 (fun _ => true) held n 151 [v] = some x) : ∃ l : List Slot, l.length ≤ maxLen ∧ WV W (.sl 4 (l.map rL)) v := by
 obtain ⟨l, h1, -, h2⟩ := row_of (row := rL) (good := fun _ => True) Try.underlying151 c198 (by decide) (fun n cs x _ hl h => by
  obtain ⟨a, b, c, d, rfl⟩ := el_four Try.underlying198 rfl hl h
  exact ⟨⟨a, b, c, d⟩, rfl, trivial, row_four⟩) hB h
 exact ⟨l, h1, h2⟩
theorem ints_of (hB : HasB W) {v : Value} {n : Nat} {x : DataW H × List MemPlace} (h : DataW.trod enc Try.prog W 0 (fun _ => true) held n 23 [v] = some x) : ∃ l : List Int, l.length ≤ maxLen ∧ WV W (.sl 1 (l.map rI)) v := by
 obtain ⟨l, h1, -, h2⟩ := row_of (row := rI) (good := fun _ => True) Try.underlying23 c3 (by decide) (fun n cs x _ hl h => by
  obtain ⟨c, rfl⟩ := one_cell hl
  obtain ⟨k, rfl⟩ := ev_int h
  refine ⟨k, rfl, trivial, fun j p hp => ?_⟩
  match j, hp with
  | 0, hp => simp only [rI, List.getElem?_cons_zero, Option.some.injEq] at hp; subst hp; exact ⟨_, rfl, .int⟩
  | j + 1, hp => simp [rI] at hp) hB h
 exact ⟨l, h1, h2⟩
theorem strs_of (hB : HasB W) {v : Value} {n : Nat} {x : DataW H × List MemPlace} (h : DataW.trod enc Try.prog W 0 (fun _ => true) held n 22 [v] = some x) : ∃ l : List Str, l.length ≤ maxLen ∧ (∀ s, s ∈ l → s.length ≤ maxLen) ∧ WV W (.sl 1 (l.map rS)) v := by
 refine row_of (row := rS) (good := fun s => s.length ≤ maxLen) Try.underlying22 c9 (by decide) (fun n cs x _ hl h => ?_) hB h
 obtain ⟨s, rfl, -, hs⟩ := DataW.trod_string Try.underlying9 h
 refine ⟨s.data.toList, rfl, hs, fun j p hp => ?_⟩
 match j, hp with
 | 0, hp => simp only [rS, List.getElem?_cons_zero, Option.some.injEq] at hp; subst hp; exact ⟨_, rfl, .str⟩
 | j + 1, hp => simp [rS] at hp
theorem spaces_of (hB : HasB W) {v : Value} {n : Nat} {x : DataW H × List MemPlace} (h : DataW.trod enc Try.prog W 0 (fun _ => true) held n 26 [v] = some x) : ∃ l : List Space, l.length ≤ maxLen ∧ (∀ s, s ∈ l → s.ar.length ≤ maxLen ∧ s.sl.length ≤ maxLen) ∧ WV W (.sl 3 (l.map rP)) v := by
 refine row_of (row := rP) (good := fun s => s.ar.length ≤ maxLen ∧ s.sl.length ≤ maxLen) Try.underlying26 c153 (by decide) (fun n cs x hB hl h => ?_) hB h
 obtain ⟨a, b, c, rfl⟩ := three_cells hl
 obtain ⟨xs, m, -, -, -, h1, h2⟩ := DataW.trod_struct Try.underlying153 h
 obtain ⟨y0, k0⟩ := fld h1 h2 0 (t := 4) (off := 0) rfl c4
 obtain ⟨y1, k1⟩ := fld h1 h2 1 (t := 150) (off := 1) rfl c150
 obtain ⟨y2, k2⟩ := fld h1 h2 2 (t := 151) (off := 2) rfl c151
 obtain ⟨p, rfl⟩ := ev_bool k0
 obtain ⟨ar, a1, a2⟩ := areas_of hB k1
 obtain ⟨sl, s1, s2⟩ := slots_of hB k2
 refine ⟨⟨p, ar, sl⟩, rfl, ⟨a1, s1⟩, fun j q hq => ?_⟩
 match j, hq with
 | 0, hq => simp only [rP, List.getElem?_cons_zero, Option.some.injEq] at hq; subst hq; exact ⟨_, rfl, .bool⟩
 | 1, hq => simp only [rP, List.getElem?_cons_succ, List.getElem?_cons_zero, Option.some.injEq] at hq; subst hq; exact ⟨_, rfl, a2⟩
 | 2, hq => simp only [rP, List.getElem?_cons_succ, List.getElem?_cons_zero, Option.some.injEq] at hq; subst hq; exact ⟨_, rfl, s2⟩
 | j + 3, hq => simp [rP] at hq
theorem pages_of {b1 b2 : Value} (hB : HasB W) {n : Nat} {x : DataW H × List MemPlace} (h : DataW.trod enc Try.prog W 0 (fun _ => true) held n 25 [b1, b2] = some x) :
  ∃ p : Pages, p.tx.length ≤ maxLen ∧ p.rf.length ≤ maxLen ∧ (∀ s, s ∈ p.tx → s.length ≤ maxLen) ∧ WV W (.sl 1 (p.tx.map rS)) b1 ∧ WV W (.sl 1 (p.rf.map rI)) b2 := by
 obtain ⟨xs, m, -, -, -, h1, h2⟩ := DataW.trod_struct Try.underlying25 h
 obtain ⟨y0, k0⟩ := fld h1 h2 0 (t := 22) (off := 0) rfl c22
 obtain ⟨y1, k1⟩ := fld h1 h2 1 (t := 23) (off := 1) rfl c23
 obtain ⟨tx, t1, t2, t3⟩ := strs_of hB k0
 obtain ⟨rf, r1, r2⟩ := ints_of hB k1
 exact ⟨⟨tx, rf⟩, t1, r1, t2, t3, r2⟩
theorem mem_arg {base : Nat} {v : Value} {d : DataW H} {p : List MemPlace} (hval : Value.okWide Try.prog W .any base 28 v) (h0 : DataW.Trod enc Try.prog W 0 (fun _ => true) held 28 v d p) : ∃ m : Mem, m.inW ∧ WDV W (aM true true true true true m) v := by
 unfold Value.okWide at hval
 rw [Try.underlying28] at hval
 obtain ⟨cs, rfl, hsz, hrow⟩ := hval
 rw [c28] at hsz
 obtain ⟨fuel, h⟩ := h0
 obtain ⟨a0, a1, a2, a3, a4, a5, hcs⟩ := six_cells (cs := cs.toList) (by simpa using hsz)
 obtain rfl : cs = #[a0, a1, a2, a3, a4, a5] := by rw [← Array.toArray_toList (xs := cs), hcs]
 have h : DataW.trod enc Try.prog W 0 (fun _ => true) held fuel 28 [a0, a1, a2, a3, a4, a5] = some (d, p) := h
 obtain ⟨xs, m, -, -, -, h1, h2⟩ := DataW.trod_struct Try.underlying28 h
 obtain ⟨y0, k0⟩ := fld h1 h2 0 (t := 25) (off := 0) rfl c25
 obtain ⟨y1, k1⟩ := fld h1 h2 1 (t := 25) (off := 2) rfl c25
 obtain ⟨y2, k2⟩ := fld h1 h2 2 (t := 26) (off := 4) rfl c26
 obtain ⟨y3, k3⟩ := fld h1 h2 3 (t := 3) (off := 5) rfl c3
 have hb : ∀ (i : Nat) (u : Value), (#[a0, a1, a2, a3, a4, a5] : Array Value)[i]? = some u → (∃ (ad : Addr) (len cap : Nat), u = Value.slice (some ad) len cap) → HasB W := by
  rintro i u hi ⟨ad, len, cap, rfl⟩
  obtain ⟨ts, -, -, hall⟩ := hrow
  obtain ⟨t, -, ht⟩ := hall i _ hi
  exact hasB ht
 by_cases hB : HasB W
 ·obtain ⟨ram, r1, r2, r3, r4, r5⟩ := pages_of hB k0
  obtain ⟨swp, s1, s2, s3, s4, s5⟩ := pages_of hB k1
  obtain ⟨sps, p1, p2, p3⟩ := spaces_of hB k2
  obtain ⟨hd, rfl⟩ := ev_int k3
  refine ⟨⟨ram, swp, sps, hd⟩, ⟨⟨r1, r2, s1, s2, p1, p2⟩, r3, s3⟩, _, rfl, rfl, fun j q hq => ?_⟩
  match j, hq with
  | 0, hq => simp only [List.getElem?_cons_zero, Option.some.injEq] at hq; subst hq; exact ⟨rfl, _, rfl, r4⟩
  | 1, hq => simp only [List.getElem?_cons_succ, List.getElem?_cons_zero, Option.some.injEq] at hq; subst hq; exact ⟨rfl, _, rfl, r5⟩
  | 2, hq => simp only [List.getElem?_cons_succ, List.getElem?_cons_zero, Option.some.injEq] at hq; subst hq; exact ⟨rfl, _, rfl, s4⟩
  | 3, hq => simp only [List.getElem?_cons_succ, List.getElem?_cons_zero, Option.some.injEq] at hq; subst hq; exact ⟨rfl, _, rfl, s5⟩
  | 4, hq => simp only [List.getElem?_cons_succ, List.getElem?_cons_zero, Option.some.injEq] at hq; subst hq; exact ⟨rfl, _, rfl, p3⟩
  | 5, hq => simp only [List.getElem?_cons_succ, List.getElem?_cons_zero, Option.some.injEq] at hq; subst hq; exact ⟨rfl, _, rfl, .int⟩
  | j + 6, hq => simp at hq
 ·have nil : ∀ {t e : TypeId} {n : Nat} {u : Value} {x : DataW H × List MemPlace} (i : Nat), Try.prog.underlying t = some (.slice e) → DataW.trod enc Try.prog W 0 (fun _ => true) held n t [u] = some x → (#[a0, a1, a2, a3, a4, a5] : Array Value)[i]? = some u → u = .slice none 0 0 := by
   intro t e n u x i ht h hi
   rcases DataW.trod_slice ht h with ⟨q, -⟩ | ⟨ad, len, cap, _, _, _, -, q, -⟩
   ·simpa using q
   ·simp only [List.cons.injEq, and_true] at q
    exact absurd (hb i u hi ⟨ad, len, cap, q⟩) hB
  have pg : ∀ {b1 b2 : Value} {n : Nat} {x : DataW H × List MemPlace} (i j : Nat), DataW.trod enc Try.prog W 0 (fun _ => true) held n 25 [b1, b2] = some x → (#[a0, a1, a2, a3, a4, a5] : Array Value)[i]? = some b1 → (#[a0, a1, a2, a3, a4, a5] : Array Value)[j]? = some b2 → b1 = .slice none 0 0 ∧ b2 = .slice none 0 0 := by
   intro b1 b2 n x i j h hi hj
   obtain ⟨xs, m, -, -, -, h1, h2⟩ := DataW.trod_struct Try.underlying25 h
   obtain ⟨y0, k0⟩ := fld h1 h2 0 (t := 22) (off := 0) rfl c22
   obtain ⟨y1, k1⟩ := fld h1 h2 1 (t := 23) (off := 1) rfl c23
   exact ⟨nil i Try.underlying22 k0 hi, nil j Try.underlying23 k1 hj⟩
  obtain ⟨rfl, rfl⟩ := pg 0 1 k0 rfl rfl
  obtain ⟨rfl, rfl⟩ := pg 2 3 k1 rfl rfl
  obtain rfl := nil 4 Try.underlying26 k2 rfl
  obtain ⟨hd, rfl⟩ := ev_int k3
  refine ⟨⟨⟨[], []⟩, ⟨[], []⟩, [], hd⟩, ⟨⟨Nat.zero_le _, Nat.zero_le _, Nat.zero_le _, Nat.zero_le _, Nat.zero_le _, fun s hs => by simp at hs⟩, fun s hs => by simp at hs, fun s hs => by simp at hs⟩, _, rfl, rfl, fun j q hq => ?_⟩
  match j, hq with
  | 0, hq => simp only [List.getElem?_cons_zero, Option.some.injEq] at hq; subst hq; exact ⟨rfl, _, rfl, .nil⟩
  | 1, hq => simp only [List.getElem?_cons_succ, List.getElem?_cons_zero, Option.some.injEq] at hq; subst hq; exact ⟨rfl, _, rfl, .nil⟩
  | 2, hq => simp only [List.getElem?_cons_succ, List.getElem?_cons_zero, Option.some.injEq] at hq; subst hq; exact ⟨rfl, _, rfl, .nil⟩
  | 3, hq => simp only [List.getElem?_cons_succ, List.getElem?_cons_zero, Option.some.injEq] at hq; subst hq; exact ⟨rfl, _, rfl, .nil⟩
  | 4, hq => simp only [List.getElem?_cons_succ, List.getElem?_cons_zero, Option.some.injEq] at hq; subst hq; exact ⟨rfl, _, rfl, .nil⟩
  | 5, hq => simp only [List.getElem?_cons_succ, List.getElem?_cons_zero, Option.some.injEq] at hq; subst hq; exact ⟨rfl, _, rfl, .int⟩
  | j + 6, hq => simp at hq
theorem int_arg {base : Nat} {v : Value} {d : DataW H} {p : List MemPlace} (hval : Value.okWide Try.prog W .any base 3 v) (h0 : DataW.Trod enc Try.prog W 0 (fun _ => true) held 3 v d p) : ∃ n : Int, WDV W (.one (dI n)) v := by
 obtain ⟨n, rfl, -⟩ := open_int Try.underlying3 hval h0
 exact ⟨n, rfl, .int⟩
theorem area_arg {base : Nat} {v : Value} {d : DataW H} {p : List MemPlace} (hval : Value.okWide Try.prog W .any base 77 v) (h0 : DataW.Trod enc Try.prog W 0 (fun _ => true) held 77 v d p) : ∃ a : Area, WDV W (.agg (aA a)) v := by
 unfold Value.okWide at hval
 rw [Try.underlying77] at hval
 obtain ⟨cs, rfl, hsz, hrow⟩ := hval
 rw [c77] at hsz
 obtain ⟨fuel, h⟩ := h0
 have h : DataW.trod enc Try.prog W 0 (fun _ => true) held fuel 77 cs.toList = some (d, p) := h
 obtain ⟨a, b, c, e, hcs⟩ := el_four Try.underlying77 rfl (by simpa using hsz) h
 obtain rfl : cs = #[.int .i64 a, .int .i64 b, .bool c, .bool e] := by rw [← Array.toArray_toList (xs := cs), hcs]
 refine ⟨⟨a, b, c, e⟩, _, rfl, rfl, fun j q hq => ?_⟩
 match j, hq with
 | 0, hq => simp only [aA, List.getElem?_cons_zero, Option.some.injEq] at hq; subst hq; exact ⟨rfl, _, rfl, .int⟩
 | 1, hq => simp only [aA, List.getElem?_cons_succ, List.getElem?_cons_zero, Option.some.injEq] at hq; subst hq; exact ⟨rfl, _, rfl, .int⟩
 | 2, hq => simp only [aA, List.getElem?_cons_succ, List.getElem?_cons_zero, Option.some.injEq] at hq; subst hq; exact ⟨rfl, _, rfl, .bool⟩
 | 3, hq => simp only [aA, List.getElem?_cons_succ, List.getElem?_cons_zero, Option.some.injEq] at hq; subst hq; exact ⟨rfl, _, rfl, .bool⟩
 | j + 4, hq => simp [aA] at hq
theorem laidOut : laidOutB Try.prog = true := by kernel_rfl
theorem rec28 : Try.prog.readableRec 28 = true := by kernel_rfl
theorem in28 : InBook Try.prog 28 28 := ⟨of_decide_eq_true (by kernel_rfl), book_self 28⟩
theorem in3 : InBook Try.prog 28 3 := ⟨of_decide_eq_true (by kernel_rfl), List.contains_iff_mem.1 (by kernel_rfl)⟩
theorem in77 : InBook Try.prog 28 77 := ⟨of_decide_eq_true (by kernel_rfl), List.contains_iff_mem.1 (by kernel_rfl)⟩
theorem K28 : Kids Try.prog (InBook Try.prog 28) := kids_book laidOut rec28
end
end Go.Qm
namespace Go.Qm
open Go.Cq Go.Cq.D Go.RowKit Go.Proofs
set_option maxRecDepth 10000
def addTo (l : List Area) (a : Area) (i : Nat) : List Area := if addP a l < i then putA (l.take i) a (addP a l) else l.take i
theorem take_app {l : List Area} {i : Nat} (h : i < l.length) : l.take i ++ [l[i]] = l.take (i + 1) := (List.take_succ_eq_append_getElem h).symm
theorem addTo_in {l : List Area} {a : Area} {i : Nat} (h : i < l.length) (c : addP a l < i) : addTo l a i ++ [l[i]] = addTo l a (i + 1) := by
 rw [addTo, addTo, if_pos c, if_pos (by omega), putA, putA, ← take_app h]
 simp only [List.append_assoc, List.cons_append]
 rw [List.take_append_of_le_length (by simp; omega), List.drop_append_of_le_length (by simp; omega)]
theorem addTo_at {l : List Area} {a : Area} {i : Nat} (h : i < l.length) (c : addP a l = i) : addTo l a i ++ [a] ++ [l[i]] = addTo l a (i + 1) := by
 rw [addTo, addTo, if_neg (by omega), if_pos (by omega), c, putA, ← take_app h]
 rw [List.take_append_of_le_length (by simp; omega), List.drop_append_of_le_length (by simp; omega)]
 simp [List.take_take]
theorem addTo_lo {l : List Area} {a : Area} {i : Nat} (h : i < l.length) (c : i < addP a l) : addTo l a i ++ [l[i]] = addTo l a (i + 1) := by
 rw [addTo, addTo, if_neg (by omega), if_neg (by omega)]
 exact take_app h
theorem addTo_len {l : List Area} {a : Area} {i : Nat} (h : i ≤ l.length) : (addTo l a i).length ≤ i + 1 := by
 unfold addTo
 split
 ·rw [putA_len, List.length_take]; omega
 ·rw [List.length_take]; omega
theorem addTo_all {l : List Area} {a : Area} (c : addP a l < l.length) : addTo l a l.length = addL l a := by
 rw [addTo, if_pos c, List.take_length]; rfl
theorem addTo_end {l : List Area} {a : Area} (c : ¬ addP a l < l.length) : addTo l a l.length ++ [a] = addL l a := by
 have : addP a l = l.length := by have := addP_le (a := a) (l := l); omega
 rw [addTo, if_neg c, addL, putA, this]
 simp
theorem lenA {α : Type} {a b : List α} {i : Nat} (h : a.length ≤ i + 1) (hi : i ≤ 1048576) : ((((a.take a.length ++ b.take 1).drop 0).take (a.length + 1)).length + 1) * 24 ≤ 140737488355328 := by
 rw [List.length_take]
 omega
theorem lenB {α : Type} {a b : List α} {i : Nat} (h : a.length ≤ i + 1) (hi : i ≤ 1048576) : (((a.take a.length ++ b.take 1).drop 0).take (a.length + 1)).length + 1 ≤ 140737488355328 := by
 rw [List.length_take]
 omega
set_option maxHeartbeats 1000000 in
theorem l2Add_ok (b : Bool) (l : List Area) (a : Area) (hl : l.length ≤ 1048576) : CallV Try.prog 178 [.one (.ro b 4 (l.map rA)), .agg (aA a)] (.v (.one (.own 4 ((addL l a).map rA)))) := by
 refine callX_of hmix Try.func178 ok178 ?_
 (conv=>whnf)<;>repeat' first|(refine cond_t ?_;conv=>whnf)|(refine cond_f ?_;conv=>whnf)
 refine op_lit rfl rfl rfl ?_
 (conv=>whnf)<;>repeat' first|(refine cond_t ?_;conv=>whnf)|(refine cond_f ?_;conv=>whnf)
 refine loop_at (fun i : Nat => [(0, .v (.one (.ro b 4 (l.map rA)))), (3, .v (.one (.ptr 0 0 0))), (5, .v (.one (.own 4 ((addTo l a i).map rA)))), (6, .v (.one (dB (decide (addP a l < i))))), (7, .v (.one (dI i)))]) (fun _ => [(0, .box (aA a))]) (fun _ => 1)
  (fun i => i ≤ l.length) (fun i => l.length - i) 0 (by omega) (by simp [addTo, dI, dB]) rfl rfl fun i hi => ?_
 (conv=>whnf)<;>repeat' first|(refine cond_t ?_;conv=>whnf)|(refine cond_f ?_;conv=>whnf)
 refine CondP.mk (fun h => ?_) (fun h => ?_) <;> (conv=>whnf)<;>repeat' first|(refine cond_t ?_;conv=>whnf)|(refine cond_f ?_;conv=>whnf)
 ·have hlt : i < l.length := by simpa using h
  have hn := addTo_len (a := a) (show i ≤ l.length by omega)
  have hn' : ((addTo l a i).map rA).length ≤ i + 1 := by rw [List.length_map]; exact hn
  refine CondP.mk (fun h1 => ?_) (fun h1 => ?_) <;> rw [h1] <;> (conv=>whnf)<;>repeat' first|(refine cond_t ?_;conv=>whnf)|(refine cond_f ?_;conv=>whnf)
  ·have c : ¬ addP a l < i := by simpa using h1
   refine op_idx_ro (k := i) rfl rfl (by simpa using hlt) ?_
   (conv=>whnf)<;>repeat' first|(refine cond_t ?_;conv=>whnf)|(refine cond_f ?_;conv=>whnf)
   refine op_load_rp rfl (r := .one (dI l[i].fr)) (by simp [loadRp, rA, hlt, eI, dI]) ?_
   (conv=>whnf)<;>repeat' first|(refine cond_t ?_;conv=>whnf)|(refine cond_f ?_;conv=>whnf)
   refine CondP.mk (fun h2 => ?_) (fun h2 => ?_) <;> (conv=>whnf)<;>repeat' first|(refine cond_t ?_;conv=>whnf)|(refine cond_f ?_;conv=>whnf)
   ·have c2 : a.fr ≤ l[i].fr := by simpa using h2
    have c3 : addP a l = i := by
     rcases Nat.lt_or_ge i (addP a l) with c4 | c4
     ·have := addP_lt c4; omega
     ·omega
    refine op_lit rfl rfl rfl ?_
    (conv=>whnf)<;>repeat' first|(refine cond_t ?_;conv=>whnf)|(refine cond_f ?_;conv=>whnf)
    refine op_app_mv [] [] 1 (sz := 4) rfl rfl rfl rfl rfl rfl rfl rfl (by omega) (by omega) ?_
    (conv=>whnf)<;>repeat' first|(refine cond_t ?_;conv=>whnf)|(refine cond_f ?_;conv=>whnf)
    refine op_idx_ro (k := i) rfl rfl (by simpa using hlt) ?_
    (conv=>whnf)<;>repeat' first|(refine cond_t ?_;conv=>whnf)|(refine cond_f ?_;conv=>whnf)
    refine op_load_rp rfl (ldA hlt) ?_
    (conv=>whnf)<;>repeat' first|(refine cond_t ?_;conv=>whnf)|(refine cond_f ?_;conv=>whnf)
    refine op_lit rfl rfl rfl ?_
    (conv=>whnf)<;>repeat' first|(refine cond_t ?_;conv=>whnf)|(refine cond_f ?_;conv=>whnf)
    refine op_app_mv [] [] 1 (sz := 4) rfl rfl rfl rfl rfl rfl rfl rfl (lenA hn' (by omega)) (lenB hn' (by omega)) ?_
    (conv=>whnf)<;>repeat' first|(refine cond_t ?_;conv=>whnf)|(refine cond_f ?_;conv=>whnf)
    refine ⟨i + 1, by omega, by omega, ?_, rfl, rfl⟩
    rw [up hlt (by omega), ← addTo_at hlt c3, show decide (addP a l < i + 1) = true from decide_eq_true (by omega)]
    simp [dI, dB, rA, eI, eB, List.replicate, List.take_of_length_le]
   ·have c2 : ¬ a.fr ≤ l[i].fr := by simpa using h2
    have c3 : i < addP a l := by
     rcases Nat.lt_or_ge i (addP a l) with c4 | c4
     ·exact c4
     ·have : addP a l = i := by omega
      have := addP_at (a := a) (l := l) (by omega)
      simp only [‹addP a l = i›] at this
      omega
    refine op_idx_ro (k := i) rfl rfl (by simpa using hlt) ?_
    (conv=>whnf)<;>repeat' first|(refine cond_t ?_;conv=>whnf)|(refine cond_f ?_;conv=>whnf)
    refine op_load_rp rfl (ldA hlt) ?_
    (conv=>whnf)<;>repeat' first|(refine cond_t ?_;conv=>whnf)|(refine cond_f ?_;conv=>whnf)
    refine op_lit rfl rfl rfl ?_
    (conv=>whnf)<;>repeat' first|(refine cond_t ?_;conv=>whnf)|(refine cond_f ?_;conv=>whnf)
    refine op_app_mv [] [] 1 (sz := 4) rfl rfl rfl rfl rfl rfl rfl rfl (by omega) (by omega) ?_
    (conv=>whnf)<;>repeat' first|(refine cond_t ?_;conv=>whnf)|(refine cond_f ?_;conv=>whnf)
    refine ⟨i + 1, by omega, by omega, ?_, rfl, rfl⟩
    rw [up hlt (by omega), ← addTo_lo hlt c3, show decide (addP a l < i) = false from decide_eq_false (by omega), show decide (addP a l < i + 1) = false from decide_eq_false (by omega)]
    simp [dI, dB, rA, eI, eB, List.replicate, List.take_of_length_le]
  ·have c : addP a l < i := by simpa using h1
   refine op_idx_ro (k := i) rfl rfl (by simpa using hlt) ?_
   (conv=>whnf)<;>repeat' first|(refine cond_t ?_;conv=>whnf)|(refine cond_f ?_;conv=>whnf)
   refine op_load_rp rfl (ldA hlt) ?_
   (conv=>whnf)<;>repeat' first|(refine cond_t ?_;conv=>whnf)|(refine cond_f ?_;conv=>whnf)
   refine op_lit rfl rfl rfl ?_
   (conv=>whnf)<;>repeat' first|(refine cond_t ?_;conv=>whnf)|(refine cond_f ?_;conv=>whnf)
   refine op_app_mv [] [] 1 (sz := 4) rfl rfl rfl rfl rfl rfl rfl rfl (by omega) (by omega) ?_
   (conv=>whnf)<;>repeat' first|(refine cond_t ?_;conv=>whnf)|(refine cond_f ?_;conv=>whnf)
   refine ⟨i + 1, by omega, by omega, ?_, rfl, rfl⟩
   rw [up hlt (by omega), ← addTo_in hlt c, show decide (addP a l < i) = true from decide_eq_true c, show decide (addP a l < i + 1) = true from decide_eq_true (by omega)]
   simp [dI, dB, rA, eI, eB, List.replicate, List.take_of_length_le]
 ·have : i = l.length := by
               have : ¬ i < l.length := by simpa using h
               omega
  subst this
  have hn := addTo_len (a := a) (Nat.le_refl l.length)
  have hn' : ((addTo l a l.length).map rA).length ≤ l.length + 1 := by rw [List.length_map]; exact hn
  refine CondP.mk (fun h1 => ?_) (fun h1 => ?_) <;> (conv=>whnf)<;>repeat' first|(refine cond_t ?_;conv=>whnf)|(refine cond_f ?_;conv=>whnf)
  ·have c : ¬ addP a l < l.length := by simpa using h1
   refine op_lit rfl rfl rfl ?_
   (conv=>whnf)<;>repeat' first|(refine cond_t ?_;conv=>whnf)|(refine cond_f ?_;conv=>whnf)
   refine op_app_mv [] [] 1 (sz := 4) rfl rfl rfl rfl rfl rfl rfl rfl (by omega) (by omega) ?_
   (conv=>whnf)<;>repeat' first|(refine cond_t ?_;conv=>whnf)|(refine cond_f ?_;conv=>whnf)
   refine ⟨?_, rfl⟩
   rw [← addTo_end c]
   simp [rA, eI, eB, List.replicate, List.take_of_length_le]
  ·have c : addP a l < l.length := by simpa using h1
   refine ⟨?_, rfl⟩
   rw [← addTo_all c]
   simp
set_option maxHeartbeats 1000000 in
theorem lareasAdd_ok (b : Bool) (l : List Area) (a : Area) (hl : l.length ≤ 1048576) : CallV Try.prog 157 [.one (.ro b 4 (l.map rA)), .agg (aA a)] (.tup [.one (.own 4 (((addA l a).getD []).map rA)), .one (dB (addA l a).isSome)]) := by
 refine callX_of hmix Try.func157 ok157 ?_
 (conv=>whnf)<;>repeat' first|(refine cond_t ?_;conv=>whnf)|(refine cond_f ?_;conv=>whnf)
 refine op_callV [.pass] rfl rfl rfl (lareasOk_ok b l (by omega)) rfl ?_
 (conv=>whnf)<;>repeat' first|(refine cond_t ?_;conv=>whnf)|(refine cond_f ?_;conv=>whnf)
 refine CondP.mk (fun h1 => ?_) (fun h1 => ?_) <;> rw [h1] <;> (conv=>whnf)<;>repeat' first|(refine cond_t ?_;conv=>whnf)|(refine cond_f ?_;conv=>whnf)
 ·refine op_lit rfl rfl rfl ?_
  (conv=>whnf)<;>repeat' first|(refine cond_t ?_;conv=>whnf)|(refine cond_f ?_;conv=>whnf)
  refine ⟨?_, rfl⟩
  rw [addA, show areasOk l = false by simpa using h1]; simp [dB]
 have h1 : areasOk l = true := by simpa using h1
 refine op_callV [.pass] rfl rfl rfl (lareaOk_ok a) rfl ?_
 (conv=>whnf)<;>repeat' first|(refine cond_t ?_;conv=>whnf)|(refine cond_f ?_;conv=>whnf)
 refine CondP.mk (fun h2 => ?_) (fun h2 => ?_) <;> (conv=>whnf)<;>repeat' first|(refine cond_t ?_;conv=>whnf)|(refine cond_f ?_;conv=>whnf)
 ·refine op_lit rfl rfl rfl ?_
  (conv=>whnf)<;>repeat' first|(refine cond_t ?_;conv=>whnf)|(refine cond_f ?_;conv=>whnf)
  refine ⟨?_, rfl⟩
  rw [addA, show areaOk a = false by simpa using h2]; simp [dB]
 have h2 : areaOk a = true := by simpa using h2
 refine op_callV [.pass, .pass] rfl rfl rfl (l2Add_ok b l a hl) rfl ?_
 (conv=>whnf)<;>repeat' first|(refine cond_t ?_;conv=>whnf)|(refine cond_f ?_;conv=>whnf)
 have hn : (addL l a).length ≤ l.length + 1 := by rw [addL, putA_len]; omega
 simp only [List.drop_zero, List.take_length]
 refine op_callV [.lend] rfl (by show some [DV.one (DC.ro true 4 (List.take _ (List.drop 0 _)))] = _; rw [List.drop_zero, List.take_length]) rfl (lareasOk_ok true (addL l a) (by omega)) rfl ?_
 (conv=>whnf)<;>repeat' first|(refine cond_t ?_;conv=>whnf)|(refine cond_f ?_;conv=>whnf)
 refine CondP.mk (fun h3 => ?_) (fun h3 => ?_) <;> (conv=>whnf)<;>repeat' first|(refine cond_t ?_;conv=>whnf)|(refine cond_f ?_;conv=>whnf)
 ·refine op_lit rfl rfl rfl ?_
  (conv=>whnf)<;>repeat' first|(refine cond_t ?_;conv=>whnf)|(refine cond_f ?_;conv=>whnf)
  refine ⟨?_, rfl⟩
  rw [addA, h1, h2, show areasOk (addL l a) = false by simpa using h3]; simp [dB]
 ·refine ⟨?_, rfl⟩
  rw [addA, h1, h2, show areasOk (addL l a) = true by simpa using h3]; simp [dB]
def mapM (c : Option (List Area)) (m : Mem) (i : Nat) : Mem × Int := match c with
 | some l => (setAr m i l, 0)
 | none => (m, 4)
theorem addA_some {l0 l : List Area} {a : Area} (h : addA l0 a = some l) : areaOk a = true ∧ areasOk l = true := by
 unfold addA at h
 split at h
 ·rename_i h1
  simp only [Bool.and_eq_true] at h1
  split at h
  ·rename_i h2
   simp only [Option.some.injEq] at h
   subst h
   exact ⟨h1.2, h2⟩
  ·simp at h
 ·simp at h
set_option maxHeartbeats 1000000 in
theorem l3Map_ok (m : Mem) (i : Nat) (a : Area) (hi : i < m.sp.length) (hal : m.sp[i].ar.length ≤ 1048576) :
  CallV Try.prog 117 [oM m, .one (dI i), .agg (aA a)] (.tup [oM (mapM (addA (arOf m i) a) m i).1, .one (dI (mapM (addA (arOf m i) a) m i).2)]) := by
 have har : arOf m i = m.sp[i].ar := by simp [arOf, hi]
 rw [har]
 refine callX_of hmix Try.func117 ok117 ?_
 (conv=>whnf)<;>repeat' first|(refine cond_t ?_;conv=>whnf)|(refine cond_f ?_;conv=>whnf)
 refine op_idx_s0 (k := i) rfl rfl rfl (by simpa using hi) ?_
 (conv=>whnf)<;>repeat' first|(refine cond_t ?_;conv=>whnf)|(refine cond_f ?_;conv=>whnf)
 have hg : (m.sp.map rP)[i]? = some (rP m.sp[i]) := by simp [hi]
 refine ld_own (i := i) (k := 1) (sz' := 4) (es' := m.sp[i].ar.map rA) m.sp[i].ar.length rfl rfl rfl (cell_es (by rw [List.drop_zero, List.take_length]; exact hg) rfl rfl rfl) rfl (by simp) ?_
 (conv=>whnf)<;>repeat' first|(refine cond_t ?_;conv=>whnf)|(refine cond_f ?_;conv=>whnf)
 simp only [List.drop_zero, List.take_length]
 refine op_callV [.lend, .pass] rfl (by show some [DV.one (DC.ro true 4 (List.take _ (List.drop 0 _))), _] = _; rw [List.drop_zero, take_map_len]; rfl) rfl (lareasAdd_ok true m.sp[i].ar a hal) rfl ?_
 (conv=>whnf)<;>repeat' first|(refine cond_t ?_;conv=>whnf)|(refine cond_f ?_;conv=>whnf)
 have hback : (m.sp.map rP).modify i (fun row => row.set 1 (.sl 4 (m.sp[i].ar.map rA))) = m.sp.map rP := by
  rw [modify_set hg]; exact set_back hg
 refine op_close (i := i) (k := 1) (g' := 9) (lo := 0) (len := m.sp[i].ar.length) (es2 := m.sp.map rP) (ov2 := []) rfl (cell_ov hg (by simp [rP]) (by simp only [ovGet, if_true]; rfl)) rfl rfl (by rw [List.drop_zero, take_map_len]; exact hback) (by simp only [ovErase, if_true]; rfl) ?_
 (conv=>whnf)<;>repeat' first|(refine cond_t ?_;conv=>whnf)|(refine cond_f ?_;conv=>whnf)
 simp only [List.drop_zero, List.take_length]
 cases hc : addA m.sp[i].ar a with
 | none =>
  refine CondP.mk (fun c1 => ?_) (fun c1 => ?_) <;> (conv=>whnf)<;>repeat' first|(refine cond_t ?_;conv=>whnf)|(refine cond_f ?_;conv=>whnf)
  ·refine ⟨?_, rfl⟩
   simp [oM, mapM, dI]
  ·simp at c1
 | some l =>
  refine CondP.mk (fun c1 => ?_) (fun c1 => ?_) <;> (conv=>whnf)<;>repeat' first|(refine cond_t ?_;conv=>whnf)|(refine cond_f ?_;conv=>whnf)
  ·simp at c1
  ·refine op_idx_s0 (k := i) rfl rfl rfl (by simpa using hi) ?_
   (conv=>whnf)<;>repeat' first|(refine cond_t ?_;conv=>whnf)|(refine cond_f ?_;conv=>whnf)
   simp only [Option.getD_some]
   refine op_store_any rfl rfl rfl rfl rfl (by simp [wrN, wr1, DV.cells, hi]; rfl) ?_
   (conv=>whnf)<;>repeat' first|(refine cond_t ?_;conv=>whnf)|(refine cond_f ?_;conv=>whnf)
   refine op_close (i := i) (k := 1) (g' := 9) (lo := 0) (len := l.length) (es2 := (setAr m i l).sp.map rP) (ov2 := []) rfl (cell_ov (by simpa using hg) (by simp [rP]) (by simp only [ovGet, if_true]; rfl)) rfl rfl (by rw [List.drop_zero, take_map_len]; exact setAr_rows hi) (by simp only [ovErase, if_true]; rfl) ?_
   (conv=>whnf)<;>repeat' first|(refine cond_t ?_;conv=>whnf)|(refine cond_f ?_;conv=>whnf)
   refine ⟨?_, rfl⟩
   simp [oM, mapM, dI, setAr, List.take_of_length_le]
def memMap (m : Mem) (who : Int) (a : Area) : Mem × Int :=
 if memOk m && liveOf m.sp who then mapM (addA (arOf m who.toNat) a) m who.toNat else (mem0, 1)
set_option maxHeartbeats 1000000 in
theorem lmemMap_ok (m : Mem) (who : Int) (a : Area) (h : m.fits 1048576) : CallV Try.prog 50 [oM m, .one (dI who), .agg (aA a)] (.tup [oM (memMap m who a).1, .one (dI (memMap m who a).2)]) := by
 refine callX_of hmix Try.func50 ok50 ?_
 (conv=>whnf)<;>repeat' first|(refine cond_t ?_;conv=>whnf)|(refine cond_f ?_;conv=>whnf)
 simp only [List.drop_zero, List.take_length]
 refine op_callV (cas := [aM true true true true true m]) [.lend] rfl (by show some [DV.agg [DC.ro true 1 (List.take _ (List.drop 0 _)), DC.ro true 1 (List.take _ (List.drop 0 _)), DC.ro true 1 (List.take _ (List.drop 0 _)), DC.ro true 1 (List.take _ (List.drop 0 _)), DC.ro true 3 (List.take _ (List.drop 0 _)), _]] = _; simp only [List.drop_zero, List.take_length]; rfl) rfl (lmemOk_ok true true true true true m (h.mono (by decide))) rfl ?_
 (conv=>whnf)<;>repeat' first|(refine cond_t ?_;conv=>whnf)|(refine cond_f ?_;conv=>whnf)
 refine CondP.mk (fun h1 => ?_) (fun h1 => ?_) <;> rw [h1] <;> (conv=>whnf)<;>repeat' first|(refine cond_t ?_;conv=>whnf)|(refine cond_f ?_;conv=>whnf)
 ·refine ⟨?_, rfl⟩
  have h1 : memOk m = false := by simpa using h1
  simp [memMap, h1, oM, mem0, dI]
 have h1 : memOk m = true := by simpa using h1
 simp only [List.drop_zero, List.take_length]
 refine op_callV (cas := [aM true true true true true m, .one (dI who)]) [.lend, .pass] rfl (by show some [DV.agg [DC.ro true 1 (List.take _ (List.drop 0 _)), DC.ro true 1 (List.take _ (List.drop 0 _)), DC.ro true 1 (List.take _ (List.drop 0 _)), DC.ro true 1 (List.take _ (List.drop 0 _)), DC.ro true 3 (List.take _ (List.drop 0 _)), _], _] = _; simp only [List.drop_zero, List.take_length]; rfl) rfl (llive_ok true true true true true m who (by have := h.sp; omega)) rfl ?_
 (conv=>whnf)<;>repeat' first|(refine cond_t ?_;conv=>whnf)|(refine cond_f ?_;conv=>whnf)
 refine CondP.mk (fun h2 => ?_) (fun h2 => ?_) <;> rw [h2] <;> (conv=>whnf)<;>repeat' first|(refine cond_t ?_;conv=>whnf)|(refine cond_f ?_;conv=>whnf)
 ·refine ⟨?_, rfl⟩
  have h2 : liveOf m.sp who = false := by simpa using h2
  simp [memMap, h2, oM, mem0, dI]
 have h2 : liveOf m.sp who = true := by simpa using h2
 obtain ⟨i, rfl, hi, hlv⟩ := liveOf_iff h2
 have hal := (h.ss _ (List.getElem_mem hi)).1
 simp only [List.drop_zero, List.take_length]
 refine op_callV (cas := [aM true true true true true m]) [.lend] rfl (by show some [DV.agg [DC.ro true 1 (List.take _ (List.drop 0 _)), DC.ro true 1 (List.take _ (List.drop 0 _)), DC.ro true 1 (List.take _ (List.drop 0 _)), DC.ro true 1 (List.take _ (List.drop 0 _)), DC.ro true 3 (List.take _ (List.drop 0 _)), _]] = _; simp only [List.drop_zero, List.take_length]; rfl) rfl (l3Copy_ok true true true true true m h) rfl ?_
 (conv=>whnf)<;>repeat' first|(refine cond_t ?_;conv=>whnf)|(refine cond_f ?_;conv=>whnf)
 refine op_callV [.give, .pass, .pass] rfl rfl rfl (by simpa [oM, dI, dB, aA] using l3Map_ok m i a hi hal) rfl ?_
 (conv=>whnf)<;>repeat' first|(refine cond_t ?_;conv=>whnf)|(refine cond_f ?_;conv=>whnf)
 refine ⟨?_, rfl⟩
 simp [memMap, h1, h2, oM, dI]
end Go.Qm
namespace Go.Qm
open Go.Cq Go.Cq.D Go.RowKit Go.Proofs
set_option maxRecDepth 10000
theorem cmpA_ok (x y : Area) : CallV Try.prog 159 [.agg (aA x), .agg (aA y)] (.v (.one (dI (IntKind.wrap .i64 (x.fr - y.fr))))) := by
 refine callX_of hmix Try.func159 ok159 ?_
 (conv=>whnf)<;>repeat' first|(refine cond_t ?_;conv=>whnf)|(refine cond_f ?_;conv=>whnf)
 exact ⟨rfl, rfl⟩
def srt (l : List Area) (a : Area) (i : Nat) : List Area := if i ≤ l.length then putA l a l.length else insL l a
theorem putA_pair {l : List Area} {a : Area} {j : Nat} (h : j < l.length) : putA l a (j + 1) = l.take j ++ l[j] :: a :: l.drop (j + 1) ∧ putA l a j = l.take j ++ a :: l[j] :: l.drop (j + 1) := by
 refine ⟨?_, ?_⟩
 ·rw [putA, List.take_succ_eq_append_getElem h]; simp only [List.append_assoc, List.cons_append, List.nil_append]
 ·rw [putA, List.drop_eq_getElem_cons h]
theorem putA_swap {l : List Area} {a : Area} {j : Nat} (h : j < l.length) : ((putA l a (j + 1)).set (j + 1) l[j]).set j a = putA l a j := by
 have hj : (l.take j).length = j := by rw [List.length_take]; omega
 rw [(putA_pair h).1, (putA_pair h).2, List.set_append, hj, if_neg (by omega), show j + 1 - j = 1 by omega, List.set_append, hj, if_neg (by omega), Nat.sub_self]
 rfl
theorem putA_end {l : List Area} {a : Area} : putA l a l.length = l ++ [a] := by simp [putA]
set_option maxHeartbeats 2000000 in
theorem insertion_ok (l : List Area) (a : Area) (hl : areasOk l = true) (ha : areaOk a = true) : CallD Try.prog 187 [.one (.sl 0 0 (l.length + 1)), .one (dI 0), .one (dI ((l.length + 1 : Nat) : Int)), .one (.fn 159 [])] [(0, .arr 4 ((putA l a l.length).map rA) [])] 1
  fun x H' => x = .tup [] ∧ H' = [(0, .arr 4 ((insL l a).map rA) [])] := by
 refine callX_of hmix Try.func187 ok187 ?_
 have h6 : l.length ≤ 6 := by simp only [areasOk, Bool.and_eq_true, decide_eq_true_eq] at hl; exact hl.2
 have hb := areaOk_iff.1 ha
 (conv=>whnf)<;>repeat' first|(refine cond_t ?_;conv=>whnf)|(refine cond_f ?_;conv=>whnf)
 refine loop_at (fun i : Nat => [(0, .v (.one (.sl 0 0 (l.length + 1)))), (1, .v (.one (dI 0))), (2, .v (.one (dI ((l.length + 1 : Nat) : Int)))), (3, .v (.one (.fn 159 []))), (8, .v (.one (dI i)))]) (fun i => [(0, .arr 4 ((srt l a i).map rA) [])]) (fun _ => 1)
  (fun i => 1 ≤ i ∧ i ≤ l.length + 1) (fun i => l.length + 1 - i) 1 ⟨by omega, by omega⟩ rfl ?_ rfl fun i hi => ?_
 ·unfold srt
  split
  ·rfl
  ·have : l = [] := List.length_eq_zero_iff.1 (by omega)
   subst this; rfl
 (conv=>whnf)<;>repeat' first|(refine cond_t ?_;conv=>whnf)|(refine cond_f ?_;conv=>whnf)
 refine CondP.mk (fun h => ?_) (fun h => ?_) <;> (conv=>whnf)<;>repeat' first|(refine cond_t ?_;conv=>whnf)|(refine cond_f ?_;conv=>whnf)
 ·have hin : i ≤ l.length := by
                 have : (i : Int) < ((l.length + 1 : Nat) : Int) := by simpa using h
                 omega
  have hsrt : srt l a i = putA l a l.length := by rw [srt, if_pos hin]
  rw [hsrt]
  have next : IntKind.wrap .i64 ((i : Int) + 1) = ((i + 1 : Nat) : Int) := wrap64 (by omega) (by omega)
  by_cases c : i < l.length
  ·refine loop_at (fun _ : Unit => [(0, .v (.one (.sl 0 0 (l.length + 1)))), (1, .v (.one (dI 0))), (2, .v (.one (dI ((l.length + 1 : Nat) : Int)))), (3, .v (.one (.fn 159 []))), (8, .v (.one (dI i))), (9, .v (.one (dI i)))]) (fun _ => [(0, .arr 4 ((putA l a l.length).map rA) [])]) (fun _ => 1) (fun _ => True) (fun _ => 0) () trivial rfl rfl rfl fun _ _ => ?_
   (conv=>whnf)<;>repeat' first|(refine cond_t ?_;conv=>whnf)|(refine cond_f ?_;conv=>whnf)
   refine CondP.mk (fun h1 => ?_) (fun h1 => ?_)
   ·rw [h1]
    have hi1 : i - 1 < l.length := by omega
    have e1 := putA_lo (a := a) (Nat.le_refl l.length) c
    have e2 := putA_lo (a := a) (Nat.le_refl l.length) hi1
    have hu := areasOk_up hl (i := i - 1) (j := i) (by omega) c
    have o1 := areaOk_iff.1 (areasOk_all hl _ (List.getElem_mem c))
    have o2 := areaOk_iff.1 (areasOk_all hl _ (List.getElem_mem hi1))
    (conv=>whnf)<;>repeat' first|(refine cond_t ?_;conv=>whnf)|(refine cond_f ?_;conv=>whnf)
    refine op_idx_sl (k := i) rfl rfl rfl (by omega) ?_
    (conv=>whnf)<;>repeat' first|(refine cond_t ?_;conv=>whnf)|(refine cond_f ?_;conv=>whnf)
    refine ld_row (row := rA l[i]) rfl rfl rfl (by rw [Nat.zero_add]; exact map_get (by rw [List.getElem?_eq_getElem (by rw [putA_len]; omega), e1])) (scRow_A _) rfl rfl ?_
    (conv=>whnf)<;>repeat' first|(refine cond_t ?_;conv=>whnf)|(refine cond_f ?_;conv=>whnf)
    refine op_idx_sl (k := i - 1) rfl rfl (ix c (by omega) (by omega)) (by omega) ?_
    (conv=>whnf)<;>repeat' first|(refine cond_t ?_;conv=>whnf)|(refine cond_f ?_;conv=>whnf)
    refine ld_row (row := rA l[i - 1]) rfl rfl rfl (by rw [Nat.zero_add]; exact map_get (by rw [List.getElem?_eq_getElem (by rw [putA_len]; omega), e2])) (scRow_A _) rfl rfl ?_
    (conv=>whnf)<;>repeat' first|(refine cond_t ?_;conv=>whnf)|(refine cond_f ?_;conv=>whnf)
    refine op_callvD [.pass, .pass] [] rfl rfl rfl rfl rfl (cmpA_ok l[i] l[i - 1]) fun res H3 hp => ?_
    obtain ⟨rfl, rfl⟩ := hp
    refine ⟨rfl, rfl, _, rfl, ?_⟩
    (conv=>whnf)<;>repeat' first|(refine cond_t ?_;conv=>whnf)|(refine cond_f ?_;conv=>whnf)
    rw [wrap64 (x := l[i].fr - l[i - 1].fr) (by omega) (by omega)]
    refine CondP.mk (fun h2 => ?_) (fun h2 => ?_) <;> (conv=>whnf)<;>repeat' first|(refine cond_t ?_;conv=>whnf)|(refine cond_f ?_;conv=>whnf)
    ·have : l[i].fr - l[i - 1].fr < 0 := by simpa using h2
     omega
    ·refine ⟨i + 1, by omega, ⟨by omega, by omega⟩, ?_, ?_, rfl⟩
     ·rw [next]; rfl
     ·rw [srt, if_pos (by omega)]
   ·have : ¬ 0 < (i : Int) := by simpa using h1
    omega
  ·have hin : i = l.length := by omega
   subst hin
   refine loop_at (fun j : Nat => [(0, .v (.one (.sl 0 0 (l.length + 1)))), (1, .v (.one (dI 0))), (2, .v (.one (dI ((l.length + 1 : Nat) : Int)))), (3, .v (.one (.fn 159 []))), (8, .v (.one (dI l.length))), (9, .v (.one (dI j)))]) (fun j => [(0, .arr 4 ((putA l a j).map rA) [])]) (fun _ => 1) (fun j => j ≤ l.length ∧ insP l a l.length = insP l a j) (fun j => j) l.length ⟨Nat.le_refl _, rfl⟩ rfl rfl rfl fun j hj => ?_
   obtain ⟨hj1, hj2⟩ := hj
   (conv=>whnf)<;>repeat' first|(refine cond_t ?_;conv=>whnf)|(refine cond_f ?_;conv=>whnf)
   have fin : insP l a j = j → [(0, DB.arr 4 ((putA l a j).map rA) [])] = [(0, DB.arr 4 ((srt l a (l.length + 1)).map rA) [])] := fun e => by
    rw [srt, if_neg (by omega), insL, hj2, e]
   refine CondP.mk (fun h1 => ?_) (fun h1 => ?_) <;> rw [h1] <;> (conv=>whnf)<;>repeat' first|(refine cond_t ?_;conv=>whnf)|(refine cond_f ?_;conv=>whnf)
   ·have hj0 : 0 < (j : Int) := by simpa using h1
    obtain ⟨k, rfl⟩ : ∃ k, j = k + 1 := ⟨j - 1, by omega⟩
    have hk : k < l.length := by omega
    have e1 := putA_at (a := a) hj1
    have e2 := putA_lo (a := a) hj1 (show k < k + 1 by omega)
    have o2 := areaOk_iff.1 (areasOk_all hl _ (List.getElem_mem hk))
    have ek : IntKind.wrap .i64 (((k + 1 : Nat) : Int) - 1) = (k : Int) := by rw [wrap64 (by omega) (by omega)]; omega
    refine op_idx_sl (k := k + 1) rfl rfl rfl (by omega) ?_
    (conv=>whnf)<;>repeat' first|(refine cond_t ?_;conv=>whnf)|(refine cond_f ?_;conv=>whnf)
    refine ld_row (row := rA a) rfl rfl rfl (by rw [Nat.zero_add]; exact map_get (by rw [List.getElem?_eq_getElem (by rw [putA_len]; omega), e1])) (scRow_A _) rfl rfl ?_
    (conv=>whnf)<;>repeat' first|(refine cond_t ?_;conv=>whnf)|(refine cond_f ?_;conv=>whnf)
    refine op_idx_sl (k := k) rfl rfl (by show some _ = some _; rw [ek]) (by omega) ?_
    (conv=>whnf)<;>repeat' first|(refine cond_t ?_;conv=>whnf)|(refine cond_f ?_;conv=>whnf)
    refine ld_row (row := rA l[k]) rfl rfl rfl (by rw [Nat.zero_add]; exact map_get (by rw [List.getElem?_eq_getElem (by rw [putA_len]; omega), e2])) (scRow_A _) rfl rfl ?_
    (conv=>whnf)<;>repeat' first|(refine cond_t ?_;conv=>whnf)|(refine cond_f ?_;conv=>whnf)
    refine op_callvD [.pass, .pass] [] rfl rfl rfl rfl rfl (cmpA_ok a l[k]) fun res H3 hp => ?_
    obtain ⟨rfl, rfl⟩ := hp
    refine ⟨rfl, rfl, _, rfl, ?_⟩
    (conv=>whnf)<;>repeat' first|(refine cond_t ?_;conv=>whnf)|(refine cond_f ?_;conv=>whnf)
    rw [wrap64 (x := a.fr - l[k].fr) (by omega) (by omega)]
    have hget : l[k]?.getD area0 = l[k] := by simp [hk]
    refine CondP.mk (fun h2 => ?_) (fun h2 => ?_) <;> (conv=>whnf)<;>repeat' first|(refine cond_t ?_;conv=>whnf)|(refine cond_f ?_;conv=>whnf)
    ·have h2 : a.fr - l[k].fr < 0 := by simpa using h2
     refine op_idx_sl (k := k) rfl rfl (by show some _ = some _; rw [ek]) (by omega) ?_
     (conv=>whnf)<;>repeat' first|(refine cond_t ?_;conv=>whnf)|(refine cond_f ?_;conv=>whnf)
     refine ld_row (row := rA l[k]) rfl rfl rfl (by rw [Nat.zero_add]; exact map_get (by rw [List.getElem?_eq_getElem (by rw [putA_len]; omega), e2])) (scRow_A _) rfl rfl ?_
     (conv=>whnf)<;>repeat' first|(refine cond_t ?_;conv=>whnf)|(refine cond_f ?_;conv=>whnf)
     refine op_idx_sl (k := k + 1) rfl rfl rfl (by omega) ?_
     (conv=>whnf)<;>repeat' first|(refine cond_t ?_;conv=>whnf)|(refine cond_f ?_;conv=>whnf)
     refine ld_row (row := rA a) rfl rfl rfl (by rw [Nat.zero_add]; exact map_get (by rw [List.getElem?_eq_getElem (by rw [putA_len]; omega), e1])) (scRow_A _) rfl rfl ?_
     (conv=>whnf)<;>repeat' first|(refine cond_t ?_;conv=>whnf)|(refine cond_f ?_;conv=>whnf)
     refine op_idx_sl (k := k + 1) rfl rfl rfl (by omega) ?_
     (conv=>whnf)<;>repeat' first|(refine cond_t ?_;conv=>whnf)|(refine cond_f ?_;conv=>whnf)
     refine op_store_arr (row' := rA l[k]) rfl rfl rfl (by simp [putA_len]; omega) (row_len4 (fun _ => rfl)) (scRow_A _) rfl rfl rfl ?_
     (conv=>whnf)<;>repeat' first|(refine cond_t ?_;conv=>whnf)|(refine cond_f ?_;conv=>whnf)
     refine op_idx_sl (k := k) rfl rfl (by show some _ = some _; rw [ek]) (by omega) ?_
     (conv=>whnf)<;>repeat' first|(refine cond_t ?_;conv=>whnf)|(refine cond_f ?_;conv=>whnf)
     refine op_store_arr (row' := rA a) rfl rfl rfl (by simp [putA_len]; omega) (by rw [Nat.zero_add, map_set]; exact row_len4 (fun _ => rfl)) (scRow_A _) rfl rfl rfl ?_
     (conv=>whnf)<;>repeat' first|(refine cond_t ?_;conv=>whnf)|(refine cond_f ?_;conv=>whnf)
     refine ⟨k, by omega, ⟨by omega, ?_⟩, ?_, ?_, rfl⟩
     ·rw [hj2, insP, hget, if_pos (by omega)]
     ·rw [ek]; rfl
     ·rw [Nat.zero_add, Nat.zero_add, map_set, map_set, putA_swap hk]
    ·have h2 : ¬ a.fr - l[k].fr < 0 := by simpa using h2
     refine ⟨l.length + 1, by omega, ⟨by omega, by omega⟩, ?_, ?_, rfl⟩
     ·rw [next]; rfl
     ·exact fin (by rw [insP, hget, if_neg (by omega)])
   ·have : j = 0 := by
              have : ¬ 0 < (j : Int) := by simpa using h1
              omega
    subst this
    refine ⟨l.length + 1, by omega, ⟨by omega, by omega⟩, ?_, ?_, rfl⟩
    ·rw [next]; rfl
    ·exact fin rfl
 ·have : i = l.length + 1 := by
                 have : ¬ (i : Int) < ((l.length + 1 : Nat) : Int) := by simpa using h
                 omega
  subst this
  refine ⟨rfl, ?_⟩
  rw [srt, if_neg (by omega)]
def lenB7 (n : Nat) : Int := if n = 0 then 0 else if n = 1 then 1 else if n ≤ 3 then 2 else 3
theorem len64_ok (n : Nat) (hn : n ≤ 7) : CallV Try.prog 196 [.one (.sc (.int .u64 n))] (.v (.one (dI (lenB7 n)))) := by
 have : n = 0 ∨ n = 1 ∨ n = 2 ∨ n = 3 ∨ n = 4 ∨ n = 5 ∨ n = 6 ∨ n = 7 := by omega
 rcases this with rfl | rfl | rfl | rfl | rfl | rfl | rfl | rfl
 all_goals
  refine callX_of hmix Try.func196 ok196 ?_
  (conv=>whnf)<;>repeat' first|(refine cond_t ?_;conv=>whnf)|(refine cond_f ?_;conv=>whnf)
  refine op_fl rfl ?_
  (conv=>whnf)<;>repeat' first|(refine cond_t ?_;conv=>whnf)|(refine cond_f ?_;conv=>whnf)
  exact ⟨rfl, rfl⟩
theorem len_ok (n : Nat) (hn : n ≤ 7) : CallV Try.prog 180 [.one (.sc (.int .u64 n))] (.v (.one (dI (lenB7 n)))) := by
 refine callX_of hmix Try.func180 ok180 ?_
 (conv=>whnf)<;>repeat' first|(refine cond_t ?_;conv=>whnf)|(refine cond_f ?_;conv=>whnf)
 refine op_callV [.pass] rfl rfl rfl (len64_ok n hn) rfl ?_
 (conv=>whnf)<;>repeat' first|(refine cond_t ?_;conv=>whnf)|(refine cond_f ?_;conv=>whnf)
 exact ⟨rfl, rfl⟩
theorem pdq_ok (l : List Area) (a : Area) (lim : Int) (hl : areasOk l = true) (ha : areaOk a = true) : CallD Try.prog 179 [.one (.sl 0 0 (l.length + 1)), .one (dI 0), .one (dI ((l.length + 1 : Nat) : Int)), .one (dI lim), .one (.fn 159 [])] [(0, .arr 4 ((putA l a l.length).map rA) [])] 1
  fun x H' => x = .tup [] ∧ H' = [(0, .arr 4 ((insL l a).map rA) [])] := by
 refine callX_of hmix Try.func179 ok179 ?_
 have h6 : l.length ≤ 6 := by simp only [areasOk, Bool.and_eq_true, decide_eq_true_eq] at hl; exact hl.2
 (conv=>whnf)<;>repeat' first|(refine cond_t ?_;conv=>whnf)|(refine cond_f ?_;conv=>whnf)
 refine loop_at (fun _ : Unit => [(0, .v (.one (.sl 0 0 (l.length + 1)))), (1, .v (.one (dI 0))), (2, .v (.one (dI ((l.length + 1 : Nat) : Int)))), (3, .v (.one (dI lim))), (4, .v (.one (.fn 159 []))), (10, .v (.one (dB true))), (11, .v (.one (dB true)))]) (fun _ => [(0, .arr 4 ((putA l a l.length).map rA) [])]) (fun _ => 1) (fun _ => True) (fun _ => 0) () trivial rfl rfl rfl fun _ _ => ?_
 (conv=>whnf)<;>repeat' first|(refine cond_t ?_;conv=>whnf)|(refine cond_f ?_;conv=>whnf)
 rw [wrap64 (x := ((l.length + 1 : Nat) : Int) - 0) (by omega) (by omega)]
 refine CondP.mk (fun h1 => ?_) (fun h1 => ?_) <;> (conv=>whnf)<;>repeat' first|(refine cond_t ?_;conv=>whnf)|(refine cond_f ?_;conv=>whnf)
 ·refine op_callD [.pass, .pass, .pass, .pass] [0] rfl rfl rfl rfl (insertion_ok l a hl ha) (fun res H3 hp => ?_)
  obtain ⟨rfl, rfl⟩ := hp
  refine ⟨rfl, rfl, _, (putB_arr rfl rfl (by simp [insL, putA_len])).trans rfl, ?_⟩
  (conv=>whnf)<;>repeat' first|(refine cond_t ?_;conv=>whnf)|(refine cond_f ?_;conv=>whnf)
  exact ⟨rfl, rfl⟩
 ·have : ¬ ((l.length + 1 : Nat) : Int) - 0 ≤ 12 := by simpa using h1
  omega
theorem sortA_ok (l : List Area) (a : Area) (hl : areasOk l = true) (ha : areaOk a = true) : CallD Try.prog 158 [.one (.sl 0 0 (l.length + 1)), .one (.fn 159 [])] [(0, .arr 4 ((putA l a l.length).map rA) [])] 1
  fun x H' => x = .tup [] ∧ H' = [(0, .arr 4 ((insL l a).map rA) [])] := by
 refine callX_of hmix Try.func158 ok158 ?_
 have h6 : l.length ≤ 6 := by simp only [areasOk, Bool.and_eq_true, decide_eq_true_eq] at hl; exact hl.2
 (conv=>whnf)<;>repeat' first|(refine cond_t ?_;conv=>whnf)|(refine cond_f ?_;conv=>whnf)
 refine op_callV [.pass] rfl rfl rfl (by
  have := len_ok (l.length + 1) (by omega)
  have e : IntKind.wrap .u64 ((l.length + 1 : Nat) : Int) = ((l.length + 1 : Nat) : Int) := by
   simp only [IntKind.wrap, IntKind.bits, IntKind.signed]
   simp; omega
  rw [← e] at this
  exact this) rfl ?_
 (conv=>whnf)<;>repeat' first|(refine cond_t ?_;conv=>whnf)|(refine cond_f ?_;conv=>whnf)
 refine op_callD [.pass, .pass, .pass, .pass, .pass] [0] rfl rfl rfl rfl (pdq_ok l a _ hl ha) (fun res H3 hp => ?_)
 obtain ⟨rfl, rfl⟩ := hp
 refine ⟨rfl, rfl, _, (putB_arr rfl rfl (by simp [insL, putA_len])).trans rfl, ?_⟩
 (conv=>whnf)<;>repeat' first|(refine cond_t ?_;conv=>whnf)|(refine cond_f ?_;conv=>whnf)
 exact ⟨rfl, rfl⟩
end Go.Qm
namespace Go.Qm
open Go.Cq Go.Cq.D Go.RowKit Go.Proofs
set_option maxRecDepth 10000
theorem op_eqS {P : Prg} {op : COp} {ts ts' : DTs} {H H' : DH} {n : Nat} {K : DT → DTs → DH → Nat → List Nat → Prop} (e1 : ts = ts') (e2 : H = H') (h : OpP P op ts' H' n K) : OpP P op ts H n K := by subst e1; subst e2; exact h
set_option maxHeartbeats 1000000 in
theorem areasAdd_ok (b : Bool) (l : List Area) (a : Area) (hl : l.length ≤ 1048576) : CallV Try.prog 118 [.one (.ro b 4 (l.map rA)), .agg (aA a)] (.tup [.one (.own 4 (((addA l a).getD []).map rA)), .one (dB (addA l a).isSome)]) := by
 refine callX_of hmix Try.func118 ok118 ?_
 (conv=>whnf)<;>repeat' first|(refine cond_t ?_;conv=>whnf)|(refine cond_f ?_;conv=>whnf)
 refine op_callV [.pass] rfl rfl rfl (areasOk_ok b l (by omega)) rfl ?_
 (conv=>whnf)<;>repeat' first|(refine cond_t ?_;conv=>whnf)|(refine cond_f ?_;conv=>whnf)
 refine CondP.mk (fun h1 => ?_) (fun h1 => ?_) <;> rw [h1] <;> (conv=>whnf)<;>repeat' first|(refine cond_t ?_;conv=>whnf)|(refine cond_f ?_;conv=>whnf)
 ·refine ⟨?_, rfl⟩
  rw [addA, show areasOk l = false by simpa using h1]; simp [dB]
 have h1 : areasOk l = true := by simpa using h1
 have h6 : l.length ≤ 6 := by simp only [areasOk, Bool.and_eq_true, decide_eq_true_eq] at h1; exact h1.2
 refine op_callV [.pass] rfl rfl rfl (areaOk_ok a) rfl ?_
 (conv=>whnf)<;>repeat' first|(refine cond_t ?_;conv=>whnf)|(refine cond_f ?_;conv=>whnf)
 refine CondP.mk (fun h2 => ?_) (fun h2 => ?_) <;> (conv=>whnf)<;>repeat' first|(refine cond_t ?_;conv=>whnf)|(refine cond_f ?_;conv=>whnf)
 ·refine ⟨?_, rfl⟩
  rw [addA, show areaOk a = false by simpa using h2]; simp [dB]
 have h2 : areaOk a = true := by simpa using h2
 refine op_callV [.pass] rfl rfl rfl (cloneA_ok b l (by omega)) rfl ?_
 (conv=>whnf)<;>repeat' first|(refine cond_t ?_;conv=>whnf)|(refine cond_f ?_;conv=>whnf)
 refine op_lit rfl rfl rfl ?_
 (conv=>whnf)<;>repeat' first|(refine cond_t ?_;conv=>whnf)|(refine cond_f ?_;conv=>whnf)
 refine op_app_mv [] [] 1 (sz := 4) rfl rfl rfl rfl rfl rfl rfl rfl (by rw [List.length_map]; omega) (by rw [List.length_map]; omega) ?_
 (conv=>whnf)<;>repeat' first|(refine cond_t ?_;conv=>whnf)|(refine cond_f ?_;conv=>whnf)
 refine op_eqS (ts' := [(20, .v (.one (.sl 0 0 (l.length + 1)))), (6, .v (.one (.sl 0 0 (l.length + 1)))), (6, .v (.one (.own 4 ((putA l a l.length).map rA))))]) (H' := [(0, .arr 4 ((putA l a l.length).map rA) [])]) ?_ ?_ ?_
 ·rw [putA_end]; simp [rA, eI, eB, List.replicate, List.take_of_length_le]
 ·rw [putA_end]; simp [rA, eI, eB, List.replicate, List.take_of_length_le]
 refine op_callD [.pass, .pass] [0] rfl rfl rfl rfl (sortA_ok l a h1 h2) (fun res H3 hp => ?_)
 obtain ⟨rfl, rfl⟩ := hp
 refine ⟨rfl, rfl, _, (putB_arr rfl rfl (by simp [insL, putA_len])).trans rfl, ?_⟩
 (conv=>whnf)<;>repeat' first|(refine cond_t ?_;conv=>whnf)|(refine cond_f ?_;conv=>whnf)
 have hn : (insL l a).length = l.length + 1 := putA_len
 obtain ⟨i1, i2⟩ := ins_add h1 h2
 refine op_callV [.lend] rfl (by show some [DV.one (DC.ro true 4 (List.take _ (List.drop 0 _)))] = _; rw [List.drop_zero, List.drop_zero, List.take_of_length_le (by simp [hn]), List.take_of_length_le (by simp [hn])]) rfl (areasOk_ok true (insL l a) (by omega)) rfl ?_
 (conv=>whnf)<;>repeat' first|(refine cond_t ?_;conv=>whnf)|(refine cond_f ?_;conv=>whnf)
 refine CondP.mk (fun h3 => ?_) (fun h3 => ?_) <;> (conv=>whnf)<;>repeat' first|(refine cond_t ?_;conv=>whnf)|(refine cond_f ?_;conv=>whnf)
 ·refine ⟨?_, rfl⟩
  rw [addA, h1, h2, show areasOk (addL l a) = false by rw [← i1]; simpa using h3]; simp [dB]
 ·have h4 : areasOk (addL l a) = true := by rw [← i1]; simpa using h3
  refine ⟨?_, rfl⟩
  have hn2 : (addL l a).length = l.length + 1 := putA_len
  rw [addA, h1, h2, h4, i2 h4]; simp [dB, hn2, List.take_of_length_le]
set_option maxHeartbeats 1000000 in
theorem memMap_ok (hc : MemOkC) (b1 b2 b3 b4 b5 : Bool) (m : Mem) (who : Int) (a : Area) (h : m.fits 1048576) : CallV Try.prog 52 [aM b1 b2 b3 b4 b5 m, .one (dI who), .agg (aA a)] (.tup [oM (memMap m who a).1, .one (dI (memMap m who a).2)]) := by
 refine callX_of hmix Try.func52 ok52 ?_
 (conv=>whnf)<;>repeat' first|(refine cond_t ?_;conv=>whnf)|(refine cond_f ?_;conv=>whnf)
 refine op_callV [.pass] rfl rfl rfl (hc b1 b2 b3 b4 b5 m h) rfl ?_
 (conv=>whnf)<;>repeat' first|(refine cond_t ?_;conv=>whnf)|(refine cond_f ?_;conv=>whnf)
 refine CondP.mk (fun h1 => ?_) (fun h1 => ?_) <;> rw [h1] <;> (conv=>whnf)<;>repeat' first|(refine cond_t ?_;conv=>whnf)|(refine cond_f ?_;conv=>whnf)
 ·refine ⟨?_, rfl⟩
  have h1 : memOk m = false := by simpa using h1
  simp [memMap, h1, oM, mem0, dI]
 have h1 : memOk m = true := by simpa using h1
 refine op_callV [.pass, .pass] rfl rfl rfl (live_ok b1 b2 b3 b4 b5 m who (by have := h.sp; omega)) rfl ?_
 (conv=>whnf)<;>repeat' first|(refine cond_t ?_;conv=>whnf)|(refine cond_f ?_;conv=>whnf)
 refine CondP.mk (fun h2 => ?_) (fun h2 => ?_) <;> rw [h2] <;> (conv=>whnf)<;>repeat' first|(refine cond_t ?_;conv=>whnf)|(refine cond_f ?_;conv=>whnf)
 ·refine ⟨?_, rfl⟩
  have h2 : liveOf m.sp who = false := by simpa using h2
  simp [memMap, h2, oM, mem0, dI]
 have h2 : liveOf m.sp who = true := by simpa using h2
 obtain ⟨i, rfl, hi, hlv⟩ := liveOf_iff h2
 have hal := (h.ss _ (List.getElem_mem hi)).1
 have har : arOf m i = m.sp[i].ar := by simp [arOf, hi]
 refine op_callV [.pass] rfl rfl rfl (cloneMem_ok b1 b2 b3 b4 b5 m h) rfl ?_
 (conv=>whnf)<;>repeat' first|(refine cond_t ?_;conv=>whnf)|(refine cond_f ?_;conv=>whnf)
 refine op_idx_ro (k := i) rfl rfl (by simpa using hi) ?_
 (conv=>whnf)<;>repeat' first|(refine cond_t ?_;conv=>whnf)|(refine cond_f ?_;conv=>whnf)
 refine op_load_rp rfl (r := .one (.ro b5 4 (m.sp[i].ar.map rA))) (by simp [loadRp, rP, hi]) ?_
 (conv=>whnf)<;>repeat' first|(refine cond_t ?_;conv=>whnf)|(refine cond_f ?_;conv=>whnf)
 refine op_callV [.pass, .pass] rfl rfl rfl (areasAdd_ok b5 m.sp[i].ar a hal) rfl ?_
 (conv=>whnf)<;>repeat' first|(refine cond_t ?_;conv=>whnf)|(refine cond_f ?_;conv=>whnf)
 simp only [List.drop_zero, List.take_length]
 cases hcu : addA m.sp[i].ar a with
 | none =>
  refine CondP.mk (fun c1 => ?_) (fun c1 => ?_) <;> (conv=>whnf)<;>repeat' first|(refine cond_t ?_;conv=>whnf)|(refine cond_f ?_;conv=>whnf)
  ·refine ⟨?_, rfl⟩
   simp [memMap, h1, h2, har, hcu, mapM, oM, dI]
  ·simp at c1
 | some l =>
  refine CondP.mk (fun c1 => ?_) (fun c1 => ?_) <;> (conv=>whnf)<;>repeat' first|(refine cond_t ?_;conv=>whnf)|(refine cond_f ?_;conv=>whnf)
  ·simp at c1
  ·refine op_idx_s0 (k := i) rfl rfl rfl (by simpa using hi) ?_
   (conv=>whnf)<;>repeat' first|(refine cond_t ?_;conv=>whnf)|(refine cond_f ?_;conv=>whnf)
   simp only [Option.getD_some]
   refine op_store_any rfl rfl rfl rfl rfl (by simp [wrN, wr1, DV.cells, hi]; rfl) ?_
   (conv=>whnf)<;>repeat' first|(refine cond_t ?_;conv=>whnf)|(refine cond_f ?_;conv=>whnf)
   refine op_close (i := i) (k := 1) (g' := 5) (lo := 0) (len := l.length) (es2 := (setAr m i l).sp.map rP) (ov2 := []) rfl (cell_ov (by simp [hi]; rfl) (by simp [rP]) (by simp only [ovGet, if_true]; rfl)) rfl rfl (by rw [List.drop_zero, take_map_len]; exact setAr_rows hi) (by simp only [ovErase, if_true]; rfl) ?_
   (conv=>whnf)<;>repeat' first|(refine cond_t ?_;conv=>whnf)|(refine cond_f ?_;conv=>whnf)
   refine ⟨?_, rfl⟩
   simp [memMap, h1, h2, har, hcu, mapM, oM, dI, setAr, List.take_of_length_le]
theorem memMap_small {m : Mem} {who : Int} {a : Area} : (memMap m who a).1.fits 16 := by
 unfold memMap
 split
 ·rename_i h
  simp only [Bool.and_eq_true] at h
  obtain ⟨h1, h2⟩ := h
  have hs := memOk_small h1
  cases hc : addA (arOf m who.toNat) a with
  | none => exact hs
  | some l =>
   simp only [mapM]
   have h4 := (addA_some hc).2
   have hl6 : l.length ≤ 6 := by simp only [areasOk, Bool.and_eq_true, decide_eq_true_eq] at h4; exact h4.2
   refine ⟨hs.rt, hs.rr, hs.st, hs.sr, by simpa [setAr] using hs.sp, fun s hs' => ?_⟩
   obtain ⟨q, hq, rfl⟩ := List.getElem_of_mem hs'
   simp only [setAr, List.length_modify] at hq
   have := hs.ss _ (List.getElem_mem hq)
   simp only [setAr, List.getElem_modify]
   split
   ·exact ⟨by simp only; omega, this.2⟩
   ·exact this
 ·exact ⟨by simp [mem0], by simp [mem0], by simp [mem0], by simp [mem0], by simp [mem0], fun s hs => by simp [mem0] at hs⟩
set_option maxHeartbeats 4000000 in
theorem lawMemMap_ok (hc : MemOkC) (b1 b2 b3 b4 b5 : Bool) (m : Mem) (who : Int) (a : Area) (hw : m.inW) : CallV Try.prog 19 [aM b1 b2 b3 b4 b5 m, .one (dI who), .agg (aA a)] (.v (.one (dB true))) := by
 refine callX_of hmix Try.func19 ok19 ?_
 (conv=>whnf)<;>repeat' first|(refine cond_t ?_;conv=>whnf)|(refine cond_f ?_;conv=>whnf)
 refine op_callV [.pass, .pass] rfl rfl rfl (szMem_ok b1 b2 b3 b4 b5 m 1048576 (by omega) (by omega) hw) rfl ?_
 (conv=>whnf)<;>repeat' first|(refine cond_t ?_;conv=>whnf)|(refine cond_f ?_;conv=>whnf)
 refine CondP.mk (fun h1 => ?_) (fun h1 => ?_) <;> (conv=>whnf)<;>repeat' first|(refine cond_t ?_;conv=>whnf)|(refine cond_f ?_;conv=>whnf)
 ·exact ⟨rfl, rfl⟩
 have h1 : 0 ≤ szMem 1048576 m := by simpa using h1
 obtain ⟨hf, hwt⟩ := szMem_ge (by omega) h1 (by omega)
 refine op_callV [.pass] rfl rfl rfl (toMem_ok b1 b2 b3 b4 b5 m hf) rfl ?_
 (conv=>whnf)<;>repeat' first|(refine cond_t ?_;conv=>whnf)|(refine cond_f ?_;conv=>whnf)
 refine op_callV [.pass] rfl rfl rfl (toArea_ok a) rfl ?_
 (conv=>whnf)<;>repeat' first|(refine cond_t ?_;conv=>whnf)|(refine cond_f ?_;conv=>whnf)
 refine op_callV [.give, .pass, .pass] rfl rfl rfl (by simpa [oM, dI, dB, aA] using lmemMap_ok m who a hf) rfl ?_
 (conv=>whnf)<;>repeat' first|(refine cond_t ?_;conv=>whnf)|(refine cond_f ?_;conv=>whnf)
 generalize hr : memMap m who a = r
 have hsm : r.1.fits 16 := by rw [← hr]; exact memMap_small
 refine op_callV [.pass] rfl rfl rfl (toMem_ok b1 b2 b3 b4 b5 m hf) rfl ?_
 (conv=>whnf)<;>repeat' first|(refine cond_t ?_;conv=>whnf)|(refine cond_f ?_;conv=>whnf)
 simp only [List.drop_zero, List.take_length]
 have heq : CallV Try.prog 26 [aM true true true true true r.1, aM true true true true true r.1] (.v (.one (dB true))) := by
  simpa using eqMem_ok true true true true true true true true true true r.1 r.1 (hsm.mono (by decide))
 refine op_callV [.pass] rfl rfl rfl (toArea_ok a) rfl ?_
 (conv=>whnf)<;>repeat' first|(refine cond_t ?_;conv=>whnf)|(refine cond_f ?_;conv=>whnf)
 simp only [List.drop_zero, List.take_length]
 refine op_callV (cas := [aM true true true true true m, .one (dI who), .agg (aA a)]) [.lend, .pass, .pass] rfl (by show some [DV.agg [DC.ro true 1 (List.take _ (List.drop 0 _)), DC.ro true 1 (List.take _ (List.drop 0 _)), DC.ro true 1 (List.take _ (List.drop 0 _)), DC.ro true 1 (List.take _ (List.drop 0 _)), DC.ro true 3 (List.take _ (List.drop 0 _)), _], _, _] = _; simp only [List.drop_zero, List.take_length]; rfl) rfl (memMap_ok hc true true true true true m who a hf) rfl ?_
 (conv=>whnf)<;>repeat' first|(refine cond_t ?_;conv=>whnf)|(refine cond_f ?_;conv=>whnf)
 simp only [hr, List.drop_zero, List.take_length]
 refine op_callV (cas := [aM true true true true true r.1, aM true true true true true r.1]) [.lend, .lend] rfl (by show some [DV.agg [DC.ro true 1 (List.take _ (List.drop 0 _)), DC.ro true 1 (List.take _ (List.drop 0 _)), DC.ro true 1 (List.take _ (List.drop 0 _)), DC.ro true 1 (List.take _ (List.drop 0 _)), DC.ro true 3 (List.take _ (List.drop 0 _)), _], DV.agg [DC.ro true 1 (List.take _ (List.drop 0 _)), DC.ro true 1 (List.take _ (List.drop 0 _)), DC.ro true 1 (List.take _ (List.drop 0 _)), DC.ro true 1 (List.take _ (List.drop 0 _)), DC.ro true 3 (List.take _ (List.drop 0 _)), _]] = _; simp only [List.drop_zero, List.take_length]; rfl) rfl heq rfl ?_
 (conv=>whnf)<;>repeat' first|(refine cond_t ?_;conv=>whnf)|(refine cond_f ?_;conv=>whnf)
 refine CondP.mk (fun h => by simp at h) (fun _ => ?_)
 (conv=>whnf)<;>repeat' first|(refine cond_t ?_;conv=>whnf)|(refine cond_f ?_;conv=>whnf)
 refine op_callV [.pass] rfl rfl rfl (toMem_ok b1 b2 b3 b4 b5 m hf) rfl ?_
 (conv=>whnf)<;>repeat' first|(refine cond_t ?_;conv=>whnf)|(refine cond_f ?_;conv=>whnf)
 have heq2 : CallV Try.prog 26 [aM true true true true true m, aM true true true true true m] (.v (.one (dB true))) := by
  simpa using eqMem_ok true true true true true true true true true true m m (hf.mono (by decide))
 simp only [List.drop_zero, List.take_length]
 refine op_callV (cas := [aM true true true true true m, aM true true true true true m]) [.lend, .lend] rfl (by show some [DV.agg [DC.ro true 1 (List.take _ (List.drop 0 _)), DC.ro true 1 (List.take _ (List.drop 0 _)), DC.ro true 1 (List.take _ (List.drop 0 _)), DC.ro true 1 (List.take _ (List.drop 0 _)), DC.ro true 3 (List.take _ (List.drop 0 _)), _], DV.agg [DC.ro true 1 (List.take _ (List.drop 0 _)), DC.ro true 1 (List.take _ (List.drop 0 _)), DC.ro true 1 (List.take _ (List.drop 0 _)), DC.ro true 1 (List.take _ (List.drop 0 _)), DC.ro true 3 (List.take _ (List.drop 0 _)), _]] = _; simp only [List.drop_zero, List.take_length]; rfl) rfl heq2 rfl ?_
 (conv=>whnf)<;>repeat' first|(refine cond_t ?_;conv=>whnf)|(refine cond_f ?_;conv=>whnf)
 simp only [List.drop_zero, List.take_length]
 simp only [List.length_map]
 refine op_callD [.pass, .pass] [25, 26, 27, 28, 29] rfl rfl rfl rfl (markMem_ok m 1 hf (by omega) (by omega)) fun res H3 hp => ?_
 obtain ⟨rfl, rfl⟩ := hp
 refine ⟨rfl, rfl, _, (putB_arr rfl rfl (by simp [gMem, gPages, markL_len])).trans ((putB_arr rfl rfl (by simp [gMem, gPages, markL_len])).trans ((putB_arr rfl rfl (by simp [gMem, gPages, markL_len])).trans ((putB_arr rfl rfl (by simp [gMem, gPages, markL_len])).trans ((putB_arr rfl rfl (by simp [gMem, gPages, markL_len])).trans rfl)))), ?_⟩
 (conv=>whnf)<;>repeat' first|(refine cond_t ?_;conv=>whnf)|(refine cond_f ?_;conv=>whnf)
 simp only [List.drop_zero, List.take_length]
 refine op_callV (cas := [aM true true true true true r.1, aM true true true true true r.1]) [.lend, .lend] rfl (by show some [DV.agg [DC.ro true 1 (List.take _ (List.drop 0 _)), DC.ro true 1 (List.take _ (List.drop 0 _)), DC.ro true 1 (List.take _ (List.drop 0 _)), DC.ro true 1 (List.take _ (List.drop 0 _)), DC.ro true 3 (List.take _ (List.drop 0 _)), _], DV.agg [DC.ro true 1 (List.take _ (List.drop 0 _)), DC.ro true 1 (List.take _ (List.drop 0 _)), DC.ro true 1 (List.take _ (List.drop 0 _)), DC.ro true 1 (List.take _ (List.drop 0 _)), DC.ro true 3 (List.take _ (List.drop 0 _)), _]] = _; simp only [List.drop_zero, List.take_length]; rfl) rfl heq rfl ?_
 (conv=>whnf)<;>repeat' first|(refine cond_t ?_;conv=>whnf)|(refine cond_f ?_;conv=>whnf)
 refine CondP.mk (fun h => by simp at h) (fun _ => ?_)
 (conv=>whnf)<;>repeat' first|(refine cond_t ?_;conv=>whnf)|(refine cond_f ?_;conv=>whnf)
 simp only [List.drop_zero, List.take_length]
 simp only [List.length_map]
 have hwr := small_wt hsm
 refine op_callD [.pass, .pass] [25, 26, 27, 28, 29] rfl rfl rfl rfl (markMem_ok r.1 1 (hsm.mono (by decide)) (by omega) (by omega)) fun res H3 hp => ?_
 obtain ⟨rfl, rfl⟩ := hp
 refine ⟨rfl, rfl, _, (putB_arr rfl rfl (by simp [gMem, gPages, markL_len])).trans ((putB_arr rfl rfl (by simp [gMem, gPages, markL_len])).trans ((putB_arr rfl rfl (by simp [gMem, gPages, markL_len])).trans ((putB_arr rfl rfl (by simp [gMem, gPages, markL_len])).trans ((putB_arr rfl rfl (by simp [gMem, gPages, markL_len])).trans rfl)))), ?_⟩
 (conv=>whnf)<;>repeat' first|(refine cond_t ?_;conv=>whnf)|(refine cond_f ?_;conv=>whnf)
 have e1 : List.take r.1.ram.tx.length (List.map rS (gMem 1 r.1).ram.tx) = List.map rS (gMem 1 r.1).ram.tx := List.take_of_length_le (by simp [gMem, gPages, markL_len])
 have e2 : List.take r.1.ram.rf.length (List.map rI (gMem 1 r.1).ram.rf) = List.map rI (gMem 1 r.1).ram.rf := List.take_of_length_le (by simp [gMem, gPages, markL_len])
 have e3 : List.take r.1.swp.tx.length (List.map rS (gMem 1 r.1).swp.tx) = List.map rS (gMem 1 r.1).swp.tx := List.take_of_length_le (by simp [gMem, gPages, markL_len])
 have e4 : List.take r.1.swp.rf.length (List.map rI (gMem 1 r.1).swp.rf) = List.map rI (gMem 1 r.1).swp.rf := List.take_of_length_le (by simp [gMem, gPages, markL_len])
 have e5 : List.take r.1.sp.length (List.map rP (gMem 1 r.1).sp) = List.map rP (gMem 1 r.1).sp := List.take_of_length_le (by simp [gMem, gPages, markL_len])
 simp only [List.drop_zero, List.take_length, e1, e2, e3, e4, e5]
 generalize hg : gMem 1 r.1 = g at *
 have hgf : g.fits 1048576 := by rw [← hg]; exact gMem_wt.2 (hsm.mono (by decide))
 have hgw : g.wt = r.1.wt := by rw [← hg]; exact gMem_wt'
 have hheld : CallV Try.prog 28 [aM true true true true true g, .one (dI 1)] (.v (.one (dI (1 + r.1.wt)))) := by
  have := heldMem_ok true true true true true g 1 hgf (by omega) (by omega)
  rw [← hg, hMem_g] at this
  rw [← hg]
  exact this
 have ehd : r.1.hd = g.hd := by rw [← hg]; rfl
 simp only [ehd]
 refine op_callV (cas := [aM true true true true true g, .one (dI 1)]) [.lend, .pass] rfl (by show some [DV.agg [DC.ro true 1 (List.take _ (List.drop 0 _)), DC.ro true 1 (List.take _ (List.drop 0 _)), DC.ro true 1 (List.take _ (List.drop 0 _)), DC.ro true 1 (List.take _ (List.drop 0 _)), DC.ro true 3 (List.take _ (List.drop 0 _)), _], _] = _; simp only [List.drop_zero, List.take_length]; rfl) rfl hheld rfl ?_
 (conv=>whnf)<;>repeat' first|(refine cond_t ?_;conv=>whnf)|(refine cond_f ?_;conv=>whnf)
 refine CondP.mk (fun h => by simp at h) (fun _ => ?_)
 (conv=>whnf)<;>repeat' first|(refine cond_t ?_;conv=>whnf)|(refine cond_f ?_;conv=>whnf)
 refine op_callV [.pass] rfl rfl rfl (toMem_ok b1 b2 b3 b4 b5 m hf) rfl ?_
 (conv=>whnf)<;>repeat' first|(refine cond_t ?_;conv=>whnf)|(refine cond_f ?_;conv=>whnf)
 simp only [List.drop_zero, List.take_length]
 refine op_callV [.pass] rfl rfl rfl (toArea_ok a) rfl ?_
 (conv=>whnf)<;>repeat' first|(refine cond_t ?_;conv=>whnf)|(refine cond_f ?_;conv=>whnf)
 simp only [List.drop_zero, List.take_length]
 refine op_callV (cas := [aM true true true true true m, .one (dI who), .agg (aA a)]) [.lend, .pass, .pass] rfl (by show some [DV.agg [DC.ro true 1 (List.take _ (List.drop 0 _)), DC.ro true 1 (List.take _ (List.drop 0 _)), DC.ro true 1 (List.take _ (List.drop 0 _)), DC.ro true 1 (List.take _ (List.drop 0 _)), DC.ro true 3 (List.take _ (List.drop 0 _)), _], _, _] = _; simp only [List.drop_zero, List.take_length]; rfl) rfl (memMap_ok hc true true true true true m who a hf) rfl ?_
 (conv=>whnf)<;>repeat' first|(refine cond_t ?_;conv=>whnf)|(refine cond_f ?_;conv=>whnf)
 simp only [hr, List.drop_zero, List.take_length]
 refine op_callV (cas := [aM true true true true true r.1, aM true true true true true r.1]) [.lend, .lend] rfl (by show some [DV.agg [DC.ro true 1 (List.take _ (List.drop 0 _)), DC.ro true 1 (List.take _ (List.drop 0 _)), DC.ro true 1 (List.take _ (List.drop 0 _)), DC.ro true 1 (List.take _ (List.drop 0 _)), DC.ro true 3 (List.take _ (List.drop 0 _)), _], DV.agg [DC.ro true 1 (List.take _ (List.drop 0 _)), DC.ro true 1 (List.take _ (List.drop 0 _)), DC.ro true 1 (List.take _ (List.drop 0 _)), DC.ro true 1 (List.take _ (List.drop 0 _)), DC.ro true 3 (List.take _ (List.drop 0 _)), _]] = _; simp only [List.drop_zero, List.take_length, aM, ehd, dI]) rfl heq rfl ?_
 (conv=>whnf)<;>repeat' first|(refine cond_t ?_;conv=>whnf)|(refine cond_f ?_;conv=>whnf)
 refine CondP.mk (fun h => by simp at h) (fun _ => ?_)
 (conv=>whnf)<;>repeat' first|(refine cond_t ?_;conv=>whnf)|(refine cond_f ?_;conv=>whnf)
 simp only [List.drop_zero, List.take_length]
 refine op_callV (cas := [aM true true true true true g, .one (dI 1)]) [.lend, .pass] rfl (by show some [DV.agg [DC.ro true 1 (List.take _ (List.drop 0 _)), DC.ro true 1 (List.take _ (List.drop 0 _)), DC.ro true 1 (List.take _ (List.drop 0 _)), DC.ro true 1 (List.take _ (List.drop 0 _)), DC.ro true 3 (List.take _ (List.drop 0 _)), _], _] = _; simp only [List.drop_zero, List.take_length]; rfl) rfl hheld rfl ?_
 (conv=>whnf)<;>repeat' first|(refine cond_t ?_;conv=>whnf)|(refine cond_f ?_;conv=>whnf)
 refine CondP.mk (fun h => by simp at h) (fun _ => ?_)
 (conv=>whnf)<;>repeat' first|(refine cond_t ?_;conv=>whnf)|(refine cond_f ?_;conv=>whnf)
 exact ⟨rfl, rfl⟩
end Go.Qm
