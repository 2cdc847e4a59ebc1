import GoSem.Core.Value
import Derived.Below
import Derived.Laws.IdiomCopy
import Derived.Laws.Cells
import Derived.WalkKit
import Derived.Laws.Cover3
import Derived.Laws.Tables
import Derived.Great.BuildSlice
import Derived.Laws.MakeOwn
import Derived.Laws.AppendOwn
import Derived.Laws.BytesArg
import Derived.Laws.IdiomStrings
import Derived.Laws.Strings
import Derived.ChangeKeysEq
import Derived.Laws.StructEq
import Derived.WideKeyRuns
import Derived.Orders
import Derived.ProofKit
import Derived.OpenShut
/- The tree machine's state: pure trees, cells, slots, places; reading and writing by a path. -/
namespace Go.Tq

/-- A pure tree: what an owned or a read-only cell holds. -/
inductive PV where
  | dead
  | bool (x : Bool)
  | int (k : IntKind) (n : Int)
  | str (x : ByteArray)
  | sl (sz : Nat) (nl : Bool) (es : List (List PV))
  deriving Inhabited

/-- A path, the innermost step first: (element, cell in it). -/
abbrev Steps := List (Nat × Nat)

def PV.getR : PV → Steps → Option PV
  | p, [] => some p
  | p, (i, k) :: q => match p.getR q with
    | some (.sl _ _ es) => (es[i]?).bind (·[k]?)
    | _ => none

def PV.setR : PV → Steps → PV → PV
  | _, [], x => x
  | p, (i, k) :: q, x => match p.getR q with
    | some (.sl sz nl es) => p.setR q (.sl sz nl (es.modify i (·.set k x)))
    | _ => p

theorem PV.getR_nil (p : PV) : p.getR [] = some p := rfl
theorem PV.getR_cons (p : PV) (i k : Nat) (q : Steps) : p.getR ((i, k) :: q) = match p.getR q with
    | some (.sl _ _ es) => (es[i]?).bind (·[k]?)
    | _ => none := rfl

theorem PV.getR_append (p : PV) (r q : Steps) : p.getR (r ++ q) = (p.getR q).bind (·.getR r) := by
  induction r with
  | nil => cases h : p.getR q <;> simp [h, PV.getR]
  | cons a r ih =>
    obtain ⟨i, k⟩ := a
    simp only [List.cons_append, PV.getR, ih]
    cases p.getR q <;> simp

/-- Is q a suffix of q'? then what is in front. -/
def front : Steps → Steps → Option Steps
  | q, [] => if q = [] then some [] else none
  | q, a :: t => if q = a :: t then some [] else (front q t).map (a :: ·)

theorem front_some {q q' r : Steps} (h : front q q' = some r) : q' = r ++ q := by
  induction q' generalizing r with
  | nil =>
    simp only [front] at h
    split at h
    · rename_i e; simp at h; subst e; subst h; rfl
    · simp at h
  | cons a t ih =>
    simp only [front] at h
    split at h
    · rename_i e; simp at h; subst h; exact e.symm
    · simp only [Option.map_eq_some_iff] at h
      obtain ⟨r', h1, h2⟩ := h
      rw [← h2, ih h1]; rfl

theorem front_self_append (r q : Steps) : front q (r ++ q) = some r := by
  induction r with
  | nil => cases q <;> simp [front]
  | cons a r ih =>
    simp only [List.cons_append, front]
    split
    · rename_i e
      have := congrArg List.length e
      simp at this; omega
    · simp [ih]

theorem front_none {q q' : Steps} (h : front q q' = none) (r : Steps) : q' ≠ r ++ q := by
  intro e
  rw [e, front_self_append] at h
  simp at h

/-- What stands at a path behind a store: below the path the new tree. -/
theorem PV.getR_setR_front (p : PV) (q : Steps) (x : PV) (h : (p.getR q).isSome) (r : Steps) : (p.setR q x).getR (r ++ q) = x.getR r := by
  rw [PV.getR_append]
  suffices (p.setR q x).getR q = some x by rw [this]; rfl
  induction q generalizing x with
  | nil => rfl
  | cons a q ih =>
    obtain ⟨i, k⟩ := a
    simp only [PV.getR] at h
    split at h
    · rename_i sz nl es he
      simp only [PV.setR, he, PV.getR]
      rw [ih _ (by simp [he])]
      simp only
      cases h1 : es[i]? with
      | none => simp [h1] at h
      | some cs =>
        simp only [h1, Option.bind_some] at h
        have hi : i < es.length := (List.getElem?_eq_some_iff.1 h1).1
        have hk : k < cs.length := by
          cases h2 : cs[k]? with
          | none => simp [h2] at h
          | some _ => exact (List.getElem?_eq_some_iff.1 h2).1
        rw [List.getElem?_modify]
        simp [h1, hk]
    · simp at h

/-- Of two paths, neither of which ends in the other, one store doesn't turn the other; a path above keeps its shape. -/
def sameTop : PV → PV → Prop
  | .sl sz nl es, .sl sz' nl' es' => sz = sz' ∧ nl = nl' ∧ es.length = es'.length ∧ (∀ j : Nat, (es[j]?).map List.length = (es'[j]?).map List.length)
  | p, p' => p = p'

theorem sameTop_refl (p : PV) : sameTop p p := by cases p <;> simp [sameTop]

theorem PV.getR_setR_other (p : PV) (q : Steps) (x : PV) (h : (p.getR q).isSome) (q' : Steps) (hf : front q q' = none) :
    (∀ y, p.getR q' = some y → ∃ y', (p.setR q x).getR q' = some y' ∧ sameTop y y' ∧ ((∃ r i k, q = r ++ (i, k) :: q') ∨ y = y')) ∧
    (p.getR q' = none → (p.setR q x).getR q' = none) := by
  induction q generalizing x q' with
  | nil => exact absurd (by simp : q' = q' ++ []) (front_none hf q')
  | cons a q ih =>
    obtain ⟨i, k⟩ := a
    simp only [PV.getR] at h
    split at h
    · rename_i sz nl es he
      simp only [PV.setR, he]
      -- either q' reaches into q's node, or not
      cases hq : front q q' with
      | none =>
        obtain ⟨h1, h2⟩ := ih (.sl sz nl (es.modify i (·.set k x))) (by simp [he]) q' hq
        refine ⟨fun y hy => ?_, h2⟩
        obtain ⟨y', a1, a2, a3⟩ := h1 y hy
        refine ⟨y', a1, a2, a3.imp (fun ⟨r, i', k', e⟩ => ⟨(i, k) :: r, i', k', by rw [e]; rfl⟩) id⟩
      | some r =>
        have e := front_some hq
        subst e
        rw [PV.getR_setR_front _ _ _ (by simp [he]), PV.getR_append, he]
        simp only [Option.bind_some]
        -- r is a path in the node; it doesn't end in (i, k)
        have hr : ∀ r', r ≠ r' ++ [(i, k)] := by
          intro r' e
          apply front_none hf r'
          rw [e, List.append_assoc]; rfl
        rcases List.eq_nil_or_concat r with rfl | ⟨r', b, rfl⟩
        · refine ⟨fun y hy => ?_, fun hn => by simp [PV.getR] at hn⟩
          simp only [PV.getR, Option.some.injEq] at hy
          subst hy
          refine ⟨_, rfl, ?_, .inl ⟨[], i, k, rfl⟩⟩
          simp only [sameTop, List.length_modify, true_and]
          intro j
          rw [List.getElem?_modify]
          cases es[j]? <;> simp
          split <;> simp
        · obtain ⟨i', k'⟩ := b
          have hne : (i', k') ≠ (i, k) := fun e => hr r' (by rw [e]; simp)
          have key : ∀ es' : List (List PV), ((es'[i']?).bind (·[k']?)) = ((es[i']?).bind (·[k']?)) → (PV.sl sz nl es').getR (r'.concat (i', k')) = (PV.sl sz nl es).getR (r'.concat (i', k')) := by
            intro es' e
            rw [List.concat_eq_append, PV.getR_append, PV.getR_append]
            simp only [PV.getR, e]
          rw [key (es.modify i (·.set k x))]
          · exact ⟨fun y hy => ⟨y, hy, sameTop_refl y, .inr rfl⟩, id⟩
          · rw [List.getElem?_modify]
            cases hes : es[i']? with
            | none => simp
            | some cs =>
              simp only [Option.bind_some]
              by_cases hi : i = i'
              · subst hi
                have hk : k ≠ k' := fun e => hne (by rw [e])
                simp [hk]
              · simp [hi]
    · simp at h

end Go.Tq
/- A tree lies in memory: owned (its blocks are its own) or read-only. -/
namespace Go.Tq
open Go.RowKit

structure Node where
  blk : Nat
  off : Nat
  cap : Nat
  sz : Nat
  deriving Inhabited

abbrev Lay := Steps → Node

def Node.base (n : Node) : Addr := ⟨n.blk, n.off, none⟩
def Node.cell (n : Node) (i k : Nat) : Addr := ⟨n.blk, n.off + i * n.sz + k, none⟩
def Node.ext (n : Node) (a : Addr) : Prop := a.block = n.blk ∧ n.off ≤ a.off ∧ a.off < n.off + n.cap * n.sz

theorem Node.ext_cell {n : Node} {i k : Nat} (hi : i < n.cap) (hk : k < n.sz) : n.ext (n.cell i k) := by
  refine ⟨rfl, ?_, ?_⟩
  · simp only [Node.cell]; omega
  · simp only [Node.cell]
    have h : (i + 1) * n.sz ≤ n.cap * n.sz := Nat.mul_le_mul_right _ hi
    rw [Nat.add_mul, Nat.one_mul] at h
    omega

theorem Node.cell_inj {n : Node} {i k i' k' : Nat} (hk : k < n.sz) (hk' : k' < n.sz) (h : n.cell i k = n.cell i' k') : i = i' ∧ k = k' := by
  simp only [Node.cell, Addr.mk.injEq, true_and, and_true] at h
  have h1 : i * n.sz + k = i' * n.sz + k' := by omega
  have e1 : (k + i * n.sz) / n.sz = i := by rw [Nat.add_mul_div_right _ _ (by omega), Nat.div_eq_of_lt hk]; omega
  have e2 : (k' + i' * n.sz) / n.sz = i' := by rw [Nat.add_mul_div_right _ _ (by omega), Nat.div_eq_of_lt hk']; omega
  have e : i = i' := by rw [← e1, ← e2]; congr 1; omega
  subst e
  exact ⟨rfl, by omega⟩

/-- The value that a tree's cell holds. -/
def pvVal (n : Node) : PV → Value → Prop
  | .dead, _ => True
  | .bool x, v => v = .bool x
  | .int k x, v => v = .int k x
  | .str x, v => v = .string x
  | .sl _ true es, v => v = .slice none 0 0 ∧ es = []
  | .sl _ false es, v => v = .slice (some n.base) es.length n.cap

theorem pvVal_sameTop {n : Node} {p p' : PV} {v : Value} (h : sameTop p p') (hv : pvVal n p v) : pvVal n p' v := by
  cases p <;> cases p' <;> simp only [sameTop, reduceCtorEq, PV.bool.injEq, PV.int.injEq, PV.str.injEq] at h <;> try (first | exact hv | (subst h; exact hv) | (obtain ⟨rfl, rfl⟩ := h; exact hv))
  rename_i sz nl es sz' nl' es'
  obtain ⟨rfl, rfl, hl, -⟩ := h
  cases nl
  · simp only [pvVal] at hv ⊢; rw [← hl]; exact hv
  · simp only [pvVal] at hv ⊢
    refine ⟨hv.1, ?_⟩
    have : es'.length = 0 := by rw [← hl, hv.2]; rfl
    exact List.length_eq_zero_iff.1 this

/-- Every block of cells keeps its shape. -/
def Shp (w w' : World) : Prop := ∀ (b : Nat) (c : Array Value) (e : TypeId) (fz : Nat × Nat), w.heap[b]? = some (Obj.cells c e fz) → ∃ c' : Array Value, w'.heap[b]? = some (Obj.cells c' e fz) ∧ c'.size = c.size

theorem Shp.refl (w : World) : Shp w w := fun _ c _ _ h => ⟨c, h, rfl⟩
theorem Shp.trans {a b c : World} (h : Shp a b) (k : Shp b c) : Shp a c := fun i x e fz hx => by
  obtain ⟨x', h1, h2⟩ := h i x e fz hx
  obtain ⟨x'', h3, h4⟩ := k i x' e fz h1
  exact ⟨x'', h3, h4.trans h2⟩

theorem cell_some_block {w : World} {a : Addr} {u : Value} (h : w.cell? a = some u) : ∃ (c : Array Value) (e : TypeId) (fz : Nat × Nat), w.heap[a.block]? = some (Obj.cells c e fz) ∧ a.spot = none ∧ c[a.off]? = some u := by
  unfold World.cell? at h
  split at h
  · rename_i c e fz hb
    refine ⟨c, e, fz, hb, ?_⟩
    split at h
    · simp at h
    · rename_i hs
      exact ⟨by simpa using hs, h⟩
  · simp at h

theorem cell_of_block {w : World} {a : Addr} {c : Array Value} {e : TypeId} {fz : Nat × Nat} (h : w.heap[a.block]? = some (.cells c e fz)) (hs : a.spot = none) : w.cell? a = c[a.off]? := by
  unfold World.cell?
  simp [h, hs]

theorem Shp.frozen {w w' : World} (h : Shp w w') {a : Addr} {c : Array Value} {e : TypeId} {fz : Nat × Nat} (hb : w.heap[a.block]? = some (.cells c e fz)) : w'.frozen? a = w.frozen? a := by
  obtain ⟨c', h1, _⟩ := h _ _ _ _ hb
  unfold World.frozen?
  rw [hb, h1]

/-- What a node's block must be. -/
def NodeOk (w : World) (n : Node) (sz : Nat) (es : List (List PV)) : Prop :=
  n.sz = sz ∧ es.length ≤ n.cap ∧ (∀ cs, cs ∈ es → cs.length = sz) ∧ (∃ (c : Array Value) (e : TypeId) (fz : Nat × Nat), w.heap[n.blk]? = some (Obj.cells c e fz) ∧ n.off + n.cap * n.sz ≤ c.size) ∧ ∀ a, n.ext a → w.frozen? a = false

structure Own (w : World) (x : PV) (v : Value) (α : Lay) : Prop where
  val : pvVal (α []) x v
  cell : ∀ q i k p, x.getR ((i, k) :: q) = some p → ∃ u, w.cell? ((α q).cell i k) = some u ∧ pvVal (α ((i, k) :: q)) p u
  node : ∀ q sz es, x.getR q = some (.sl sz false es) → NodeOk w (α q) sz es
  disj : ∀ q q' sz sz' es es', x.getR q = some (.sl sz false es) → x.getR q' = some (.sl sz' false es') → q ≠ q' → ∀ a, (α q).ext a → (α q').ext a → False

/-- The cells that a tree owns. -/
def Fp (x : PV) (α : Lay) (a : Addr) : Prop := ∃ q sz es, x.getR q = some (.sl sz false es) ∧ (α q).ext a

theorem getR_node {x p : PV} {i k : Nat} {q : Steps} (h : x.getR ((i, k) :: q) = some p) : ∃ sz nl es cs, x.getR q = some (.sl sz nl es) ∧ es[i]? = some cs ∧ cs[k]? = some p := by
  simp only [PV.getR] at h
  split at h
  · rename_i sz nl es he
    cases h1 : es[i]? with
    | none => simp [h1] at h
    | some cs => exact ⟨sz, nl, es, cs, he, h1, by simpa [h1] using h⟩
  · simp at h

theorem Own.nil_empty {w : World} {x : PV} {v : Value} {α : Lay} (h : Own w x v α) {q : Steps} {sz : Nat} {es : List (List PV)} (hq : x.getR q = some (.sl sz true es)) : es = [] := by
  cases q with
  | nil =>
    simp only [PV.getR, Option.some.injEq] at hq
    subst hq
    exact h.val.2
  | cons a q =>
    obtain ⟨i, k⟩ := a
    obtain ⟨u, _, hu⟩ := h.cell q i k _ hq
    exact hu.2

/-- A cell of an owned tree: its node, its place in the node. -/
theorem Own.at_node {w : World} {x : PV} {v : Value} {α : Lay} (h : Own w x v α) {q : Steps} {i k : Nat} {p : PV} (hp : x.getR ((i, k) :: q) = some p) :
    ∃ sz es cs, x.getR q = some (.sl sz false es) ∧ es[i]? = some cs ∧ cs[k]? = some p ∧ NodeOk w (α q) sz es ∧ i < (α q).cap ∧ k < (α q).sz ∧ (α q).ext ((α q).cell i k) := by
  obtain ⟨sz, nl, es, cs, h1, h2, h3⟩ := getR_node hp
  cases nl with
  | true => rw [h.nil_empty h1] at h2; simp at h2
  | false =>
    have hn := h.node _ _ _ h1
    have hi : i < es.length := (List.getElem?_eq_some_iff.1 h2).1
    have hcs : cs.length = sz := hn.2.2.1 cs (List.mem_of_getElem? h2)
    have hk : k < cs.length := (List.getElem?_eq_some_iff.1 h3).1
    have hi' : i < (α q).cap := Nat.lt_of_lt_of_le hi hn.2.1
    have hk' : k < (α q).sz := by rw [hn.1, ← hcs]; exact hk
    exact ⟨sz, es, cs, h1, h2, h3, hn, hi', hk', Node.ext_cell hi' hk'⟩

theorem Own.fp_cell {w : World} {x : PV} {v : Value} {α : Lay} (h : Own w x v α) {q : Steps} {i k : Nat} {p : PV} (hp : x.getR ((i, k) :: q) = some p) : Fp x α ((α q).cell i k) := by
  obtain ⟨sz, es, cs, h1, h2, h3, hn, hi, hk, he⟩ := h.at_node hp
  exact ⟨q, sz, es, h1, he⟩

theorem NodeOk.shp {w w' : World} (hs : Shp w w') {n : Node} {sz : Nat} {es : List (List PV)} (h : NodeOk w n sz es) : NodeOk w' n sz es := by
  obtain ⟨h1, h2, h3, ⟨c, e, fz, h4, h5⟩, h6⟩ := h
  obtain ⟨c', g1, g2⟩ := hs _ _ _ _ h4
  refine ⟨h1, h2, h3, ⟨c', e, fz, g1, by omega⟩, fun a ha => ?_⟩
  rw [hs.frozen (a := a) (by rw [ha.1]; exact h4)]
  exact h6 a ha

/-- An owned tree in another world that keeps its cells. -/
theorem Own.frame {w w' : World} {x : PV} {v : Value} {α : Lay} (h : Own w x v α) (hs : Shp w w') (hc : ∀ a, Fp x α a → ∀ u, w.cell? a = some u → w'.cell? a = some u) : Own w' x v α where
  val := h.val
  cell q i k p hp := by
    obtain ⟨u, h1, h2⟩ := h.cell q i k p hp
    exact ⟨u, hc _ (h.fp_cell hp) u h1, h2⟩
  node q sz es hq := (h.node q sz es hq).shp hs
  disj := h.disj

/-- A part of an owned tree is one. -/
theorem Own.sub {w : World} {x y : PV} {v u : Value} {α : Lay} (h : Own w x v α) {q : Steps} (hy : x.getR q = some y) (hu : pvVal (α q) y u) : Own w y u (fun r => α (r ++ q)) where
  val := hu
  cell r i k p hp := h.cell (r ++ q) i k p (by
    have := PV.getR_append x ((i, k) :: r) q
    rw [hy] at this
    rw [List.cons_append] at this
    rw [this]; exact hp)
  node r sz es hr := h.node (r ++ q) sz es (by rw [PV.getR_append, hy]; exact hr)
  disj r r' sz sz' es es' h1 h2 hne := h.disj (r ++ q) (r' ++ q) sz sz' es es' (by rw [PV.getR_append, hy]; exact h1) (by rw [PV.getR_append, hy]; exact h2) (fun e => hne (List.append_cancel_right e))

theorem fp_sub {x y : PV} {α : Lay} {q : Steps} (hy : x.getR q = some y) {a : Addr} (ha : Fp y (fun r => α (r ++ q)) a) : Fp x α a := by
  obtain ⟨r, sz, es, h1, h2⟩ := ha
  exact ⟨r ++ q, sz, es, by rw [PV.getR_append, hy]; exact h1, h2⟩

/-- The layout behind a store of a tree at a path. -/
def Lay.upd (α : Lay) (q : Steps) (β : Lay) : Lay := fun q2 => match front q q2 with
  | some r => β r
  | none => α q2

theorem Lay.upd_front (α : Lay) (q : Steps) (β : Lay) (r : Steps) : α.upd q β (r ++ q) = β r := by
  simp [Lay.upd, front_self_append]

theorem Lay.upd_at (α : Lay) (q : Steps) (β : Lay) : α.upd q β q = β [] := Lay.upd_front α q β []

theorem Lay.upd_none (α : Lay) (q : Steps) (β : Lay) {q2 : Steps} (h : front q q2 = none) : α.upd q β q2 = α q2 := by
  simp [Lay.upd, h]

theorem front_cons_none {i k i2 k2 : Nat} {q' q2 : Steps} (h : front ((i, k) :: q') q2 = none) (hne : (i2, k2) :: q2 ≠ (i, k) :: q') : front ((i, k) :: q') ((i2, k2) :: q2) = none := by
  simp only [front]
  rw [if_neg (fun e => hne e.symm), h]
  rfl

theorem front_node_none (i k : Nat) (q : Steps) : front ((i, k) :: q) q = none := by
  cases h : front ((i, k) :: q) q with
  | none => rfl
  | some r =>
    have := congrArg List.length (front_some h)
    simp at this; omega

/-- A tree stored at a path of an owned tree. w': the world behind the store. -/
theorem Own.set {w w' : World} {x y : PV} {v u : Value} {α β : Lay} {i k : Nat} {q : Steps} {old : PV} (h : Own w x v α) (hold : x.getR ((i, k) :: q) = some old) (hs : Shp w w')
    (hc : ∀ a, Fp x α a → a ≠ (α q).cell i k → ∀ u, w.cell? a = some u → w'.cell? a = some u) (hu : w'.cell? ((α q).cell i k) = some u)
    (hy : Own w' y u β) (hd : ∀ a, Fp x α a → Fp y β a → False) : Own w' (x.setR ((i, k) :: q) y) v (α.upd ((i, k) :: q) β) := by
  have hsome : (x.getR ((i, k) :: q)).isSome := by simp [hold]
  have hnode := h.at_node hold
  obtain ⟨sz0, es0, cs0, n1, n2, n3, n4, n5, n6, n7⟩ := hnode
  -- what stands at a path in front of which nothing is laid
  have other : ∀ q2, front ((i, k) :: q) q2 = none → ∀ p', (x.setR ((i, k) :: q) y).getR q2 = some p' → ∃ p, x.getR q2 = some p ∧ sameTop p p' := by
    intro q2 hq2 p' hp'
    obtain ⟨g1, g2⟩ := PV.getR_setR_other x ((i, k) :: q) y hsome q2 hq2
    cases hx : x.getR q2 with
    | none => rw [g2 hx] at hp'; simp at hp'
    | some p =>
      obtain ⟨y', a1, a2, -⟩ := g1 p hx
      rw [a1] at hp'
      simp only [Option.some.injEq] at hp'
      subst hp'
      exact ⟨p, rfl, a2⟩
  have nodeOther : ∀ q2, front ((i, k) :: q) q2 = none → ∀ sz es, (x.setR ((i, k) :: q) y).getR q2 = some (.sl sz false es) → ∃ es1, x.getR q2 = some (.sl sz false es1) ∧ es1.length = es.length ∧ ∀ j : Nat, (es1[j]?).map List.length = (es[j]?).map List.length := by
    intro q2 hq2 sz es hp'
    obtain ⟨p, h1, h2⟩ := other q2 hq2 _ hp'
    cases p <;> simp only [sameTop, reduceCtorEq] at h2
    obtain ⟨rfl, rfl, h3, h4⟩ := h2
    exact ⟨_, h1, h3, h4⟩
  refine ⟨?_, ?_, ?_, ?_⟩
  · have hf : front ((i, k) :: q) [] = none := by simp [front]
    rw [Lay.upd_none _ _ _ hf]
    obtain ⟨g1, -⟩ := PV.getR_setR_other x ((i, k) :: q) y hsome [] hf
    obtain ⟨y', a1, a2, -⟩ := g1 x rfl
    simp only [PV.getR, Option.some.injEq] at a1
    rw [a1]
    exact pvVal_sameTop a2 h.val
  · intro q2 i2 k2 p' hp'
    cases hf : front ((i, k) :: q) q2 with
    | some r =>
      have e := front_some hf
      subst e
      rw [Lay.upd_front, ← List.cons_append, Lay.upd_front]
      rw [← List.cons_append, PV.getR_setR_front _ _ _ hsome] at hp'
      exact hy.cell r i2 k2 p' hp'
    | none =>
      rw [Lay.upd_none _ _ _ hf]
      by_cases he : (i2, k2) :: q2 = (i, k) :: q
      · simp only [List.cons.injEq, Prod.mk.injEq] at he
        obtain ⟨⟨rfl, rfl⟩, rfl⟩ := he
        refine ⟨u, hu, ?_⟩
        rw [Lay.upd_at]
        have := PV.getR_setR_front x ((i2, k2) :: q2) y hsome []
        rw [List.nil_append, hp'] at this
        simp only [PV.getR, Option.some.injEq] at this
        rw [this]; exact hy.val
      · have hf2 := front_cons_none hf he
        rw [Lay.upd_none _ _ _ hf2]
        obtain ⟨p, g1, g2⟩ := other _ hf2 _ hp'
        obtain ⟨u2, g3, g4⟩ := h.cell q2 i2 k2 p g1
        refine ⟨u2, hc _ (h.fp_cell g1) ?_ u2 g3, pvVal_sameTop g2 g4⟩
        intro ea
        obtain ⟨sz2, es2, cs2, m1, m2, m3, m4, m5, m6, m7⟩ := h.at_node g1
        by_cases eq : q2 = q
        · subst eq
          obtain ⟨rfl, rfl⟩ := Node.cell_inj m6 n6 ea
          exact he rfl
        · exact h.disj q2 q _ _ _ _ m1 n1 eq _ m7 (by rw [ea]; exact n7)
  · intro q2 sz es hq2
    cases hf : front ((i, k) :: q) q2 with
    | some r =>
      have e := front_some hf
      subst e
      rw [Lay.upd_front]
      rw [PV.getR_setR_front _ _ _ hsome] at hq2
      exact hy.node r sz es hq2
    | none =>
      rw [Lay.upd_none _ _ _ hf]
      obtain ⟨es1, g1, g2, g3⟩ := nodeOther q2 hf sz es hq2
      obtain ⟨m1, m2, m3, m4, m5⟩ := (h.node q2 sz es1 g1).shp hs
      refine ⟨m1, by omega, fun cs hcs => ?_, m4, m5⟩
      obtain ⟨j, hj⟩ := List.mem_iff_getElem?.1 hcs
      have := g3 j
      rw [hj] at this
      simp only [Option.map_some, Option.map_eq_some_iff] at this
      obtain ⟨cs1, e1, e2⟩ := this
      rw [← e2]
      exact m3 cs1 (List.mem_of_getElem? e1)
  · intro q1 q2 sz sz' es es' h1 h2 hne a ha1 ha2
    cases hf1 : front ((i, k) :: q) q1 with
    | some r1 =>
      have e1 := front_some hf1
      subst e1
      rw [Lay.upd_front] at ha1
      rw [PV.getR_setR_front _ _ _ hsome] at h1
      cases hf2 : front ((i, k) :: q) q2 with
      | some r2 =>
        have e2 := front_some hf2
        subst e2
        rw [Lay.upd_front] at ha2
        rw [PV.getR_setR_front _ _ _ hsome] at h2
        exact hy.disj r1 r2 sz sz' es es' h1 h2 (fun e => hne (by rw [e])) a ha1 ha2
      | none =>
        rw [Lay.upd_none _ _ _ hf2] at ha2
        obtain ⟨es1, g1, -⟩ := nodeOther q2 hf2 sz' es' h2
        exact hd a ⟨q2, _, _, g1, ha2⟩ ⟨r1, _, _, h1, ha1⟩
    | none =>
      rw [Lay.upd_none _ _ _ hf1] at ha1
      obtain ⟨es1, g1, -⟩ := nodeOther q1 hf1 sz es h1
      cases hf2 : front ((i, k) :: q) q2 with
      | some r2 =>
        have e2 := front_some hf2
        subst e2
        rw [Lay.upd_front] at ha2
        rw [PV.getR_setR_front _ _ _ hsome] at h2
        exact hd a ⟨q1, _, _, g1, ha1⟩ ⟨r2, _, _, h2, ha2⟩
      | none =>
        rw [Lay.upd_none _ _ _ hf2] at ha2
        obtain ⟨es2, g2, -⟩ := nodeOther q2 hf2 sz' es' h2
        exact h.disj q1 q2 _ _ _ _ g1 g2 hne a ha1 ha2

/-- What a tree owns behind a store: what it had (but what was below the path), and the new tree's. -/
theorem fp_set {x y : PV} {α β : Lay} {i k : Nat} {q : Steps} {old : PV} (hold : x.getR ((i, k) :: q) = some old) {a : Addr} (ha : Fp (x.setR ((i, k) :: q) y) (α.upd ((i, k) :: q) β) a) :
    (Fp x α a ∧ ∃ q2 sz es, x.getR q2 = some (.sl sz false es) ∧ (α q2).ext a ∧ front ((i, k) :: q) q2 = none) ∨ Fp y β a := by
  have hsome : (x.getR ((i, k) :: q)).isSome := by simp [hold]
  obtain ⟨q2, sz, es, h1, h2⟩ := ha
  cases hf : front ((i, k) :: q) q2 with
  | some r =>
    have e := front_some hf
    subst e
    rw [Lay.upd_front] at h2
    rw [PV.getR_setR_front _ _ _ hsome] at h1
    exact .inr ⟨r, sz, es, h1, h2⟩
  | none =>
    rw [Lay.upd_none _ _ _ hf] at h2
    obtain ⟨g1, g2⟩ := PV.getR_setR_other x ((i, k) :: q) y hsome q2 hf
    cases hx : x.getR q2 with
    | none => rw [g2 hx] at h1; simp at h1
    | some p =>
      obtain ⟨y', a1, a2, -⟩ := g1 p hx
      rw [a1] at h1
      simp only [Option.some.injEq] at h1
      subst h1
      cases p <;> simp only [sameTop, reduceCtorEq] at a2
      obtain ⟨rfl, rfl, -⟩ := a2
      exact .inl ⟨⟨q2, _, _, hx, h2⟩, q2, _, _, hx, h2, hf⟩

/-- What a part owns is not among what the rest owns. -/
theorem Own.apart_sub {w : World} {x y : PV} {v : Value} {α : Lay} {q : Steps} (h : Own w x v α) (hy : x.getR q = some y) {a : Addr} (ha : Fp y (fun r => α (r ++ q)) a)
    {q2 : Steps} {sz : Nat} {es : List (List PV)} (h2 : x.getR q2 = some (.sl sz false es)) (he : (α q2).ext a) : ∃ r, q2 = r ++ q := by
  obtain ⟨r, sz', es', h1, h3⟩ := ha
  by_cases e : q2 = r ++ q
  · exact ⟨r, e⟩
  · exact (h.disj q2 (r ++ q) _ _ _ _ h2 (by rw [PV.getR_append, hy]; exact h1) e a he h3).elim

/-- A scalar tree owns nothing. -/
def PV.flat : PV → Bool
  | .sl _ nl _ => nl
  | _ => true

theorem getR_flat {p : PV} (h : p.flat = true) (hn : ∀ sz es, p = .sl sz true es → es = []) (a : Nat × Nat) (q : Steps) : p.getR (q ++ [a]) = none := by
  rw [PV.getR_append]
  obtain ⟨i, k⟩ := a
  cases p <;> simp [PV.getR]
  rename_i sz nl es
  cases nl
  · simp [PV.flat] at h
  · rw [hn sz es rfl]; simp

theorem fp_flat {p : PV} {n : Node} {v : Value} (h : p.flat = true) (hv : pvVal n p v) {α : Lay} {a : Addr} : ¬ Fp p α a := by
  rintro ⟨q, sz, es, h1, -⟩
  have hn : ∀ sz es, p = .sl sz true es → es = [] := by
    intro sz es e; subst e; exact hv.2
  rcases List.eq_nil_or_concat q with rfl | ⟨q', b, rfl⟩
  · simp only [PV.getR, Option.some.injEq] at h1
    subst h1
    simp [PV.flat] at h
  · rw [List.concat_eq_append, getR_flat h hn] at h1
    simp at h1

theorem Own.of_flat {w : World} {p : PV} {v : Value} {α : Lay} (h : p.flat = true) (hv : pvVal (α []) p v) : Own w p v α where
  val := hv
  cell q i k x hx := by
    have hn : ∀ sz es, p = .sl sz true es → es = [] := by
      intro sz es e; subst e; exact hv.2
    exfalso
    rcases List.eq_nil_or_concat ((i, k) :: q) with e | ⟨q', b, e⟩
    · simp at e
    · rw [e, List.concat_eq_append, getR_flat h hn] at hx
      simp at hx
  node q sz es hq := (fp_flat h hv (α := fun _ => ⟨0, 0, 1, 1⟩) (a := ⟨0, 0, none⟩) ⟨q, sz, es, hq, rfl, by simp⟩).elim
  disj q q' sz sz' es es' h1 := (fp_flat h hv (α := fun _ => ⟨0, 0, 1, 1⟩) (a := ⟨0, 0, none⟩) ⟨q, sz, es, h1, rfl, by simp⟩).elim

/-- A tree that is only read: N tells the cells that are never written. -/
structure Ro (w : World) (N : Addr → Prop) (x : PV) (v : Value) (α : Lay) : Prop where
  val : pvVal (α []) x v
  cell : ∀ q i k p, x.getR ((i, k) :: q) = some p → ∃ u, w.cell? ((α q).cell i k) = some u ∧ N ((α q).cell i k) ∧ pvVal (α ((i, k) :: q)) p u
  node : ∀ q sz es, x.getR q = some (.sl sz false es) → (α q).sz = sz ∧ es.length ≤ (α q).cap ∧ ∀ cs, cs ∈ es → cs.length = sz

theorem Ro.sub {w : World} {N : Addr → Prop} {x y : PV} {v u : Value} {α : Lay} (h : Ro w N x v α) {q : Steps} (hy : x.getR q = some y) (hu : pvVal (α q) y u) : Ro w N y u (fun r => α (r ++ q)) where
  val := hu
  cell r i k p hp := h.cell (r ++ q) i k p (by
    have := PV.getR_append x ((i, k) :: r) q
    rw [hy] at this
    rw [List.cons_append] at this
    rw [this]; exact hp)
  node r sz es hr := h.node (r ++ q) sz es (by rw [PV.getR_append, hy]; exact hr)

theorem Own.ro {w : World} {N : Addr → Prop} {x : PV} {v : Value} {α : Lay} (h : Own w x v α) (hN : ∀ a, Fp x α a → N a) : Ro w N x v α where
  val := h.val
  cell q i k p hp := by
    obtain ⟨u, h1, h2⟩ := h.cell q i k p hp
    exact ⟨u, h1, hN _ (h.fp_cell hp), h2⟩
  node q sz es hq := by
    obtain ⟨h1, h2, h3, -⟩ := h.node q sz es hq
    exact ⟨h1, h2, h3⟩

theorem Ro.mono {w w' : World} {N N' : Addr → Prop} {x : PV} {v : Value} {α : Lay} (h : Ro w N x v α) (hN : ∀ a u, N a → w.cell? a = some u → N' a ∧ w'.cell? a = some u) : Ro w' N' x v α where
  val := h.val
  cell q i k p hp := by
    obtain ⟨u, h1, h2, h3⟩ := h.cell q i k p hp
    exact ⟨u, (hN _ u h2 h1).2, (hN _ u h2 h1).1, h3⟩
  node := h.node

end Go.Tq
/- The tree machine's state beside a world: what each slot holds. -/
namespace Go.Tq
open Go.RowKit

/-- A place: a slot, one of its cells, a path in the tree that the cell owns. -/
structure Place where
  s : Nat
  c : Nat
  q : Steps
  deriving DecidableEq

inductive Cell where
  | dead
  | p (x : PV)
  | ro (x : PV)
  | lnk (pl : Place) (sz lo len : Nat)
  | ptr (pl : Place)
  | nilp
  | rptr (cs : List PV)
  | fn (f : Nat) (caps : List (List PV))
  deriving Inhabited

inductive Shape where
  | one
  | agg
  | box
  | tup (l : List (Nat × Option Nat))
  | gone
  deriving DecidableEq

/-- hc: a box that came in by a pointer: has a header below it been written? -/
structure Slot where
  sh : Shape
  cs : List Cell
  hc : Bool := false

abbrev State := List (Nat × Slot)

def get : State → Nat → Option Slot
  | [], _ => none
  | (k, v) :: t, s => if k = s then some v else get t s

def put : State → Nat → Slot → State
  | [], s, v => [(s, v)]
  | (k, u) :: t, s, v => if k = s then (s, v) :: t else if s < k then (s, v) :: (k, u) :: t else (k, u) :: put t s v

theorem get_put (σ : State) (s : Nat) (v : Slot) (r : Nat) : get (put σ s v) r = if s = r then some v else get σ r := by
  induction σ with
  | nil => simp [put, get]
  | cons a t ih =>
    obtain ⟨k, u⟩ := a
    simp only [put]
    by_cases hk : k = s
    · subst hk
      rw [if_pos rfl]
      simp only [get]
      split <;> simp_all
    · rw [if_neg hk]
      by_cases hl : s < k
      · rw [if_pos hl]
        simp only [get]
      · rw [if_neg hl]
        simp only [get, ih]
        by_cases hr : k = r
        · subst hr; simp [Ne.symm hk]
        · simp [hr]

theorem get_put_same (σ : State) (s : Nat) (v : Slot) : get (put σ s v) s = some v := by simp [get_put]
theorem get_put_ne (σ : State) {s r : Nat} (v : Slot) (h : s ≠ r) : get (put σ s v) r = get σ r := by simp [get_put, h]

/-- The slots of which some are kept. -/
def keep (l : List Nat) : State → State
  | [] => []
  | (k, v) :: t => if l.contains k = true then (k, v) :: keep l t else keep l t

theorem get_keep (l : List Nat) (σ : State) (s : Nat) : get (keep l σ) s = if l.contains s = true then get σ s else none := by
  induction σ with
  | nil => simp only [keep, get]; split <;> rfl
  | cons a t ih =>
    obtain ⟨k, u⟩ := a
    by_cases hk : l.contains k = true
    · by_cases h : k = s
      · subst h; simp only [keep, hk, if_true, get]
      · simp only [keep, hk, if_true, get, h, if_false, ih]
    · by_cases h : k = s
      · subst h; simp only [keep, hk, Bool.false_eq_true, if_false, ih]
      · simp only [keep, hk, Bool.false_eq_true, if_false, ih, get, h]

/-- The owned tree at a place. -/
def node (σ : State) (pl : Place) : Option PV := (get σ pl.s).bind fun sl => match sl.cs[pl.c]? with
  | some (.p x) => x.getR pl.q
  | _ => none

structure Env where
  B : Nat → Nat × Nat
  A : Nat → Nat → Lay

def Env.at (E : Env) (pl : Place) : Node := E.A pl.s pl.c pl.q

def Env.bcell (E : Env) (s c : Nat) : Addr := ⟨(E.B s).1, (E.B s).2 + c, none⟩

def Env.addr (E : Env) (pl : Place) : Addr := match pl.q with
  | [] => E.bcell pl.s pl.c
  | (i, k) :: q => (E.A pl.s pl.c q).cell i k

/-- Is there a cell of memory at a place? -/
def ptrOk (σ : State) (pl : Place) : Prop := match pl.q with
  | [] => ∃ sl, get σ pl.s = some sl ∧ sl.sh = .box ∧ pl.c < sl.cs.length
  | _ :: _ => (node σ pl).isSome = true

/-- Which cells may be written (w); which are never written, and may be read (n). -/
structure MN where
  w : Addr → Prop
  n : Addr → Prop

instance : CoeFun MN (fun _ => Addr → Prop) := ⟨MN.w⟩

def roPtr (w0 : World) (M : MN) (cs : List PV) (v : Value) : Prop :=
  ∃ b o, v = .pointer (some ⟨b, o, none⟩) ∧ ∀ j x, cs[j]? = some x → ∃ u α, w0.cell? ⟨b, o + j, none⟩ = some u ∧ M.n ⟨b, o + j, none⟩ ∧ Ro w0 M.n x u α

def lnkVal (n : Node) (sz lo len : Nat) (v : Value) : Prop := ∃ off, v = .slice (some ⟨n.blk, off, none⟩) len (n.cap - lo) ∧ (n.cap - lo ≠ 0 ∨ lo = 0 → off = n.off + lo * sz)

def cellVal (w0 : World) (M : MN) (σ : State) (E : Env) (s c : Nat) : Cell → Value → Prop
  | .dead, _ => True
  | .p x, v => pvVal (E.A s c []) x v
  | .ro x, v => ∃ α, Ro w0 M.n x v α
  | .lnk pl sz lo len, v => ∀ sz' es, node σ pl = some (.sl sz' false es) → sz' = sz ∧ lo + len ≤ es.length ∧ lnkVal (E.at pl) sz lo len v
  | .ptr pl, v => ptrOk σ pl → v = .pointer (some (E.addr pl))
  | .nilp, v => v = .pointer none
  | .rptr cs, v => roPtr w0 M cs v
  | .fn f caps, v => ∃ arr, v = .func (.func f) #[] arr ∧ arr.size = caps.length ∧ ∀ (j : Nat) cs, caps[j]? = some cs → ∃ u, arr[j]? = some u ∧ roPtr w0 M cs u

/-- The slot to which a cell refers. -/
def Cell.root : Cell → Option Nat
  | .lnk pl .. => some pl.s
  | .ptr pl => some pl.s
  | _ => none

def slotVal (w0 : World) (M : MN) (σ : State) (E : Env) (w : World) (s : Nat) (sl : Slot) (v : Value) : Prop := match sl.sh with
  | .one => ∃ c, sl.cs = [c] ∧ cellVal w0 M σ E s 0 c v
  | .agg => ∃ arr, v = .agg arr ∧ arr.size = sl.cs.length ∧ ∀ (j : Nat) c, sl.cs[j]? = some c → ∃ u, arr[j]? = some u ∧ cellVal w0 M σ E s j c u
  | .box => v = .pointer (some (E.bcell s 0)) ∧ ∀ (j : Nat) c, sl.cs[j]? = some c → (∃ u, w.cell? (E.bcell s j) = some u ∧ cellVal w0 M σ E s j c u) ∧ w.frozen? (E.bcell s j) = false
  | .tup l => ∃ arr, v = .tuple arr ∧ arr.size = l.length ∧ ∀ (j : Nat) o z, l[j]? = some (o, z) → ∃ u, arr[j]? = some u ∧ match z with
    | none => ∃ c, sl.cs[o]? = some c ∧ cellVal w0 M σ E s o c u
    | some n => ∃ a2, u = .agg a2 ∧ a2.size = n ∧ ∀ k, k < n → ∃ u2 c, a2[k]? = some u2 ∧ sl.cs[o + k]? = some c ∧ cellVal w0 M σ E s (o + k) c u2
  | .gone => True

/-- What a box, or a tree in a cell, owns. -/
def fpOf (E : Env) (σ : State) : Nat × Option Nat → Addr → Prop
  | (s, none), a => ∃ sl, get σ s = some sl ∧ sl.sh = .box ∧ a.block = (E.B s).1 ∧ (E.B s).2 ≤ a.off ∧ a.off < (E.B s).2 + sl.cs.length
  | (s, some j), a => ∃ sl x, get σ s = some sl ∧ sl.cs[j]? = some (.p x) ∧ Fp x (E.A s j) a

/-- What was there keeps its place; nothing outside M is turned. -/
structure Frame (w0 : World) (M : MN) (w : World) : Prop where
  os : w.os = w0.os
  tape : w.tape = w0.tape
  output : w.output = w0.output
  size : w0.heap.size ≤ w.heap.size
  cells : ∀ (b : Nat) (c : Array Value) (e : TypeId) (fz : Nat × Nat), w0.heap[b]? = some (Obj.cells c e fz) → ∃ c' : Array Value, w.heap[b]? = some (Obj.cells c' e fz) ∧ c'.size = c.size ∧ ∀ o : Nat, ¬ M ⟨b, o, none⟩ → c'[o]? = c[o]?
  other : ∀ b : Nat, b < w0.heap.size → (∀ c e fz, w0.heap[b]? ≠ some (Obj.cells c e fz)) → w.heap[b]? = w0.heap[b]?

structure Sim (w0 : World) (M : MN) (E : Env) (σ : State) (ts : Array Value) (w : World) : Prop where
  slots : ∀ s sl, get σ s = some sl → s < ts.size ∧ slotVal w0 M σ E w s sl (ts.getD s (.tuple #[]))
  own : ∀ s sl (j : Nat) x, get σ s = some sl → sl.cs[j]? = some (.p x) → ∃ v, Own w x v (E.A s j)
  disj : ∀ id id' a, id ≠ id' → fpOf E σ id a → fpOf E σ id' a → False
  mine : ∀ id a, fpOf E σ id a → M a
  refs : ∀ s sl (j : Nat) c r, get σ s = some sl → sl.cs[j]? = some c → c.root = some r → (get σ r).isSome = true
  frame : Frame w0 M w
  fresh : ∀ a : Addr, w0.heap.size ≤ a.block → M a
  apart : ∀ a : Addr, M.n a → ¬ M.w a ∧ ∃ u, w0.cell? a = some u

/-- A cell's value holds on where what it refers to holds on. -/
theorem cellVal_mono {w0 : World} {M : MN} {σ σ' : State} {E E' : Env} {s c s' c' : Nat} {x : Cell} {v : Value} (h : cellVal w0 M σ E s c x v)
    (hp : ∀ y, x = .p y → E'.A s' c' [] = E.A s c [])
    (hl : ∀ pl sz lo len, x = .lnk pl sz lo len → ∀ sz' es, node σ' pl = some (.sl sz' false es) → ∃ es0, node σ pl = some (.sl sz' false es0) ∧ es0.length ≤ es.length ∧ E'.at pl = E.at pl)
    (hr : ∀ pl, x = .ptr pl → ptrOk σ' pl → ptrOk σ pl ∧ E'.addr pl = E.addr pl) : cellVal w0 M σ' E' s' c' x v := by
  cases x with
  | dead => trivial
  | p y => simp only [cellVal] at h ⊢; rw [hp y rfl]; exact h
  | ro y => exact h
  | lnk pl sz lo len =>
    intro sz' es he
    obtain ⟨es0, h1, h2, h3⟩ := hl pl sz lo len rfl sz' es he
    obtain ⟨g1, g2, g3⟩ := h sz' es0 h1
    exact ⟨g1, by omega, by rw [h3]; exact g3⟩
  | ptr pl =>
    intro hk
    obtain ⟨h1, h2⟩ := hr pl rfl hk
    rw [h2]; exact h h1
  | nilp => exact h
  | rptr cs => exact h
  | fn f caps => exact h

/-- A slot's value, likewise. -/
theorem slotVal_mono {w0 : World} {M : MN} {σ σ' : State} {E E' : Env} {w w' : World} {s : Nat} {sl : Slot} {v : Value} (h : slotVal w0 M σ E w s sl v)
    (hB : sl.sh = .box → E'.B s = E.B s)
    (hw : sl.sh = .box → ∀ (j : Nat) c, sl.cs[j]? = some c → ∀ u, w.cell? (E.bcell s j) = some u → w.frozen? (E.bcell s j) = false → w'.cell? (E.bcell s j) = some u ∧ w'.frozen? (E.bcell s j) = false)
    (hc : ∀ (j : Nat) c u, sl.cs[j]? = some c → cellVal w0 M σ E s j c u → cellVal w0 M σ' E' s j c u) : slotVal w0 M σ' E' w' s sl v := by
  unfold slotVal at h ⊢
  cases hsh : sl.sh with
  | one =>
    simp only [hsh] at h ⊢
    obtain ⟨c, h1, h2⟩ := h
    exact ⟨c, h1, hc 0 c v (by rw [h1]; rfl) h2⟩
  | agg =>
    simp only [hsh] at h ⊢
    obtain ⟨arr, h1, h2, h3⟩ := h
    refine ⟨arr, h1, h2, fun j c hj => ?_⟩
    obtain ⟨u, h4, h5⟩ := h3 j c hj
    exact ⟨u, h4, hc j c u hj h5⟩
  | box =>
    simp only [hsh] at h ⊢
    obtain ⟨h1, h2⟩ := h
    have hB' := hB hsh
    have hb : ∀ j, E'.bcell s j = E.bcell s j := fun j => by simp [Env.bcell, hB']
    refine ⟨by rw [hb]; exact h1, fun j c hj => ?_⟩
    obtain ⟨⟨u, h3, h4⟩, h5⟩ := h2 j c hj
    rw [hb]
    obtain ⟨h6, h7⟩ := hw hsh j c hj u h3 h5
    exact ⟨⟨u, h6, hc j c u hj h4⟩, h7⟩
  | tup l =>
    simp only [hsh] at h ⊢
    obtain ⟨arr, h1, h2, h3⟩ := h
    refine ⟨arr, h1, h2, fun j o z hj => ?_⟩
    obtain ⟨u, h4, h5⟩ := h3 j o z hj
    refine ⟨u, h4, ?_⟩
    cases z with
    | none =>
      obtain ⟨c, h6, h7⟩ := h5
      exact ⟨c, h6, hc o c u h6 h7⟩
    | some n =>
      obtain ⟨a2, h6, h7, h8⟩ := h5
      refine ⟨a2, h6, h7, fun k hk => ?_⟩
      obtain ⟨u2, c, h9, h10, h11⟩ := h8 k hk
      exact ⟨u2, c, h9, h10, hc _ c u2 h10 h11⟩
  | gone => trivial

/-- Does a slot own memory? -/
def Slot.owns (sl : Slot) : Bool := sl.sh == .box || sl.cs.any fun
  | .p x => !x.flat
  | _ => false

theorem node_put_ne (σ : State) {d : Nat} (sl : Slot) {pl : Place} (h : d ≠ pl.s) : node (put σ d sl) pl = node σ pl := by
  simp [node, get_put_ne σ sl h]

theorem ptrOk_put_ne (σ : State) {d : Nat} (sl : Slot) {pl : Place} (h : d ≠ pl.s) : ptrOk (put σ d sl) pl ↔ ptrOk σ pl := by
  unfold ptrOk
  cases pl.q <;> simp [get_put_ne σ sl h, node_put_ne σ sl h]

theorem fpOf_put_ne (E : Env) (σ : State) {d : Nat} (sl : Slot) {id : Nat × Option Nat} (h : d ≠ id.1) (a : Addr) : fpOf E (put σ d sl) id a ↔ fpOf E σ id a := by
  obtain ⟨s, j⟩ := id
  cases j <;> simp [fpOf, get_put_ne σ sl h]

/-- A slot is laid anew. Nothing that another slot owns is turned. -/
theorem Sim.upd {w0 w w' : World} {M : MN} {E E' : Env} {σ : State} {ts : Array Value} (h : Sim w0 M E σ ts w) (d : Nat) (sl : Slot) (v : Value) (hd : d < ts.size)
    (hE : ∀ s, s ≠ d → E'.B s = E.B s ∧ E'.A s = E.A s)
    (hs : Shp w w') (hw : ∀ id a, id.1 ≠ d → fpOf E σ id a → ∀ u, w.cell? a = some u → w'.cell? a = some u)
    (hf : Frame w0 M w')
    -- what refers to the slot holds on
    (hL : ∀ s sl' (j : Nat) pl sz lo len, s ≠ d → get σ s = some sl' → sl'.cs[j]? = some (.lnk pl sz lo len) → pl.s = d → ∀ sz' es, node (put σ d sl) pl = some (.sl sz' false es) →
      ∃ es0, node σ pl = some (.sl sz' false es0) ∧ es0.length ≤ es.length ∧ E'.at pl = E.at pl)
    (hP : ∀ s sl' (j : Nat) pl, s ≠ d → get σ s = some sl' → sl'.cs[j]? = some (.ptr pl) → pl.s = d → ptrOk (put σ d sl) pl → ptrOk σ pl ∧ E'.addr pl = E.addr pl)
    (hv : slotVal w0 M (put σ d sl) E' w' d sl v)
    (ho : ∀ (j : Nat) x, sl.cs[j]? = some (.p x) → ∃ u, Own w' x u (E'.A d j))
    (hdd : ∀ id id' a, id ≠ id' → id.1 = d → id'.1 = d → fpOf E' (put σ d sl) id a → fpOf E' (put σ d sl) id' a → False)
    (hdo : ∀ id id' a, id.1 = d → id'.1 ≠ d → fpOf E' (put σ d sl) id a → fpOf E σ id' a → False)
    (hm : ∀ id a, id.1 = d → fpOf E' (put σ d sl) id a → M a)
    (hr : ∀ (j : Nat) c r, sl.cs[j]? = some c → c.root = some r → (get (put σ d sl) r).isSome = true) : Sim w0 M E' (put σ d sl) (ts.setIfInBounds d v) w' := by
  have hfp : ∀ id a, id.1 ≠ d → (fpOf E' (Go.Tq.put σ d sl) id a ↔ fpOf E σ id a) := by
    intro id a hid
    rw [fpOf_put_ne E' σ sl (Ne.symm hid)]
    obtain ⟨s, j⟩ := id
    obtain ⟨e1, e2⟩ := hE s hid
    cases j <;> simp [fpOf, e1, e2]
  refine ⟨?_, ?_, ?_, ?_, ?_, hf, h.fresh, h.apart⟩
  · intro s sl' hs'
    rw [get_put] at hs'
    by_cases e : d = s
    · subst e
      rw [if_pos rfl] at hs'
      simp only [Option.some.injEq] at hs'
      subst hs'
      refine ⟨by simpa using hd, ?_⟩
      have : (ts.setIfInBounds d v).getD d (.tuple #[]) = v := by simp [Array.getD, hd]
      rw [this]; exact hv
    · rw [if_neg e] at hs'
      obtain ⟨h1, h2⟩ := h.slots s sl' hs'
      refine ⟨by simpa using h1, ?_⟩
      have : (ts.setIfInBounds d v).getD s (.tuple #[]) = ts.getD s (.tuple #[]) := by
        simp [Array.getD, h1, e]
      rw [this]
      refine slotVal_mono h2 (fun _ => (hE s (Ne.symm e)).1) (fun hb j c hj u hu hz => ?_) (fun j c u hj hc => ?_)
      · have hin : fpOf E σ (s, none) (E.bcell s j) := ⟨sl', hs', hb, rfl, by simp [Env.bcell], by
          have := (List.getElem?_eq_some_iff.1 hj).1
          simp only [Env.bcell]; omega⟩
        refine ⟨hw (s, none) _ (Ne.symm e) hin u hu, ?_⟩
        obtain ⟨c0, e0, fz0, g1, -, -⟩ := cell_some_block hu
        rw [hs.frozen g1]; exact hz
      · refine cellVal_mono hc (fun y _ => by rw [(hE s (Ne.symm e)).2]) (fun pl sz lo len ex => ?_) (fun pl ex => ?_)
        · by_cases hne : d = pl.s
          · subst ex
            exact hL s sl' j pl sz lo len (Ne.symm e) hs' hj hne.symm
          · intro sz' es he
            rw [node_put_ne σ sl hne] at he
            exact ⟨es, he, Nat.le_refl _, by simp only [Env.at]; rw [(hE pl.s (Ne.symm hne)).2]⟩
        · by_cases hne : d = pl.s
          · subst ex
            exact hP s sl' j pl (Ne.symm e) hs' hj hne.symm
          · rw [ptrOk_put_ne σ sl hne]
            intro hk
            refine ⟨hk, ?_⟩
            obtain ⟨e1, e2⟩ := hE pl.s (Ne.symm hne)
            unfold Env.addr Env.bcell
            rw [e1, e2]
  · intro s sl' j x hs' hj
    rw [get_put] at hs'
    by_cases e : d = s
    · subst e
      rw [if_pos rfl] at hs'
      simp only [Option.some.injEq] at hs'
      subst hs'
      exact ho j x hj
    · rw [if_neg e] at hs'
      obtain ⟨u, h1⟩ := h.own s sl' j x hs' hj
      refine ⟨u, ?_⟩
      rw [(hE s (Ne.symm e)).2]
      exact h1.frame hs (fun a ha u hu => hw (s, some j) a (Ne.symm e) ⟨sl', x, hs', hj, ha⟩ u hu)
  · intro id id' a hne h1 h2
    by_cases e1 : id.1 = d
    · by_cases e2 : id'.1 = d
      · exact hdd id id' a hne e1 e2 h1 h2
      · exact hdo id id' a e1 e2 h1 ((hfp id' a e2).1 h2)
    · by_cases e2 : id'.1 = d
      · exact hdo id' id a e2 e1 h2 ((hfp id a e1).1 h1)
      · exact h.disj id id' a hne ((hfp id a e1).1 h1) ((hfp id' a e2).1 h2)
  · intro id a h1
    by_cases e1 : id.1 = d
    · exact hm id a e1 h1
    · exact h.mine id a ((hfp id a e1).1 h1)
  · intro s sl' j c r hs' hj hc
    rw [get_put] at hs'
    by_cases e : d = s
    · subst e
      rw [if_pos rfl] at hs'
      simp only [Option.some.injEq] at hs'
      subst hs'
      exact hr j c r hj hc
    · rw [if_neg e] at hs'
      have := h.refs s sl' j c r hs' hj hc
      rw [get_put]
      split
      · rfl
      · exact this

end Go.Tq
/- Operands, and slots whose new content owns nothing. -/
namespace Go.Tq
open Go.RowKit

inductive Opd where
  | t (s : Nat)
  | k (x : PV)
  | nilp
  deriving Inhabited

/-- A cell as it is read: an owned slice as an alias of its place. -/
def view (pl : Place) : Cell → Cell
  | .p (.sl sz false es) => .lnk pl sz 0 es.length
  | c => c

def viewsFrom (s : Nat) : Nat → List Cell → List Cell
  | _, [] => []
  | j, c :: t => view ⟨s, j, []⟩ c :: viewsFrom s (j + 1) t

theorem viewsFrom_length (s j : Nat) (l : List Cell) : (viewsFrom s j l).length = l.length := by
  induction l generalizing j with
  | nil => rfl
  | cons c t ih => simp [viewsFrom, ih]

theorem viewsFrom_get (s : Nat) (l : List Cell) (j i : Nat) : (viewsFrom s j l)[i]? = (l[i]?).map (view ⟨s, j + i, []⟩) := by
  induction l generalizing j i with
  | nil => simp [viewsFrom]
  | cons c t ih =>
    cases i with
    | zero => simp [viewsFrom]
    | succ i =>
      simp only [viewsFrom, List.getElem?_cons_succ, ih]
      have e : j + 1 + i = j + (i + 1) := by omega
      rw [e]

/-- A value that is read: shape and cells. -/
structure Val where
  sh : Shape
  cs : List Cell

def ev (σ : State) : Opd → Option Val
  | .t s => match get σ s with
    | some ⟨.one, cs, _⟩ => some ⟨.one, viewsFrom s 0 cs⟩
    | some ⟨.agg, cs, _⟩ => some ⟨.agg, viewsFrom s 0 cs⟩
    | some ⟨.box, _, _⟩ => some ⟨.one, [.ptr ⟨s, 0, []⟩]⟩
    | some ⟨.tup l, cs, _⟩ => some ⟨.tup l, viewsFrom s 0 cs⟩
    | _ => none
  | .k x => some ⟨.one, [.p x]⟩
  | .nilp => some ⟨.one, [.nilp]⟩

def ev1 (σ : State) (x : Opd) : Option Cell := match ev σ x with
  | some ⟨.one, [c]⟩ => some c
  | _ => none

/-- A cell that owns nothing. -/
def Cell.flat : Cell → Bool
  | .p x => x.flat
  | _ => true

def refVal (w0 : World) (M : MN) (σ : State) (E : Env) (c : Cell) (v : Value) : Prop := c.flat = true ∧ cellVal w0 M σ E 0 0 c v

theorem pvVal_flat {p : PV} (h : p.flat = true) {n n' : Node} {v : Value} (hv : pvVal n p v) : pvVal n' p v := by
  cases p with
  | sl sz nl es => cases nl <;> simp_all [PV.flat, pvVal]
  | _ => exact hv

theorem cellVal_flat {w0 : World} {M : MN} {σ : State} {E : Env} {s c s' c' : Nat} {x : Cell} {v : Value} (hf : x.flat = true) (h : cellVal w0 M σ E s c x v) : cellVal w0 M σ E s' c' x v := by
  cases x with
  | p y => exact pvVal_flat hf h
  | _ => exact h

/-- What an operand's value must be. -/
def ValOk (w0 : World) (M : MN) (σ : State) (E : Env) (x : Val) (v : Value) : Prop := match x.sh with
  | .one => ∃ c, x.cs = [c] ∧ refVal w0 M σ E c v
  | .agg => ∃ arr, v = .agg arr ∧ arr.size = x.cs.length ∧ ∀ (j : Nat) c, x.cs[j]? = some c → ∃ u, arr[j]? = some u ∧ refVal w0 M σ E c u
  | .tup l => ∃ arr, v = .tuple arr ∧ arr.size = l.length ∧ ∀ (j : Nat) o z, l[j]? = some (o, z) → ∃ u, arr[j]? = some u ∧ match z with
    | none => ∃ c, x.cs[o]? = some c ∧ refVal w0 M σ E c u
    | some n => ∃ a2, u = .agg a2 ∧ a2.size = n ∧ ∀ k, k < n → ∃ u2 c, a2[k]? = some u2 ∧ x.cs[o + k]? = some c ∧ refVal w0 M σ E c u2
  | _ => False

theorem view_flat (pl : Place) (c : Cell) : (view pl c).flat = true := by
  unfold view
  split
  · rfl
  · rename_i h
    cases c with
    | p x => cases x <;> try rfl
             rename_i sz nl es
             cases nl
             · exact (h sz es rfl).elim
             · rfl
    | _ => rfl

/-- The cell at a place, as its holder's value tells it, read. -/
theorem view_val {w0 : World} {M : MN} {σ : State} {E : Env} {s j : Nat} {sl : Slot} {c : Cell} {v : Value} (hs : get σ s = some sl) (hj : sl.cs[j]? = some c) (h : cellVal w0 M σ E s j c v) :
    refVal w0 M σ E (view ⟨s, j, []⟩ c) v := by
  refine ⟨view_flat _ c, ?_⟩
  unfold view
  split
  · rename_i sz es
    intro sz' es' he
    simp only [node, hs, Option.bind_some, hj, PV.getR, Option.some.injEq, PV.sl.injEq, true_and] at he
    obtain ⟨rfl, rfl⟩ := he
    refine ⟨rfl, by omega, (E.A s j []).off, ?_, fun _ => by simp [Env.at]⟩
    simp only [cellVal, pvVal] at h
    rw [h]
    simp [Env.at, Node.base]
  · rename_i hn
    cases c with
    | p x =>
      refine pvVal_flat ?_ h
      cases x <;> try rfl
      rename_i sz nl es
      cases nl
      · exact (hn sz es rfl).elim
      · rfl
    | _ => exact h

def okOpd : Opd → Operand → Bool
  | .t s, .tmp t => s == t
  | .k (.bool x), .const (.bool y) => x == y
  | .k (.int k x), .const (.int k' y) => k == k' && x == y
  | .k (.str x), .const (.string y) => decide (x = y)
  | .k (.sl _ true []), .const (.slice none 0 0) => true
  | .nilp, .const (.pointer none) => true
  | _, _ => false

theorem ev_sound {w0 w : World} {M : MN} {E : Env} {σ : State} {a : Act} (h : Sim w0 M E σ a.tmps w) {x : Opd} {o : Operand} (ho : okOpd x o = true) {r : Val} (hr : ev σ x = some r) :
    ValOk w0 M σ E r (a.eval o) := by
  unfold okOpd at ho
  split at ho
  · rename_i s t
    simp only [beq_iff_eq] at ho
    subst ho
    simp only [ev] at hr
    simp only [Act.eval]
    split at hr
    · rename_i cs hc hs
      obtain ⟨h1, h2⟩ := h.slots _ _ hs
      simp only [slotVal] at h2
      obtain ⟨c, h3, h4⟩ := h2
      subst h3
      simp only [Option.some.injEq] at hr
      subst hr
      exact ⟨_, rfl, view_val hs rfl h4⟩
    · rename_i cs hc hs
      obtain ⟨h1, h2⟩ := h.slots _ _ hs
      simp only [slotVal] at h2
      obtain ⟨arr, h3, h4, h5⟩ := h2
      simp only [Option.some.injEq] at hr
      subst hr
      refine ⟨arr, h3, by rw [viewsFrom_length]; exact h4, fun j c hj => ?_⟩
      simp only [viewsFrom_get, Option.map_eq_some_iff, Nat.zero_add] at hj
      obtain ⟨c0, h6, rfl⟩ := hj
      obtain ⟨u, h7, h8⟩ := h5 j c0 h6
      exact ⟨u, h7, view_val hs h6 h8⟩
    · rename_i cs hc hs
      obtain ⟨h1, h2⟩ := h.slots _ _ hs
      simp only [slotVal] at h2
      simp only [Option.some.injEq] at hr
      subst hr
      exact ⟨_, rfl, rfl, fun _ => h2.1⟩
    · rename_i l cs hc hs
      obtain ⟨h1, h2⟩ := h.slots _ _ hs
      simp only [slotVal] at h2
      obtain ⟨arr, h3, h4, h5⟩ := h2
      simp only [Option.some.injEq] at hr
      subst hr
      refine ⟨arr, h3, h4, fun j o z hj => ?_⟩
      obtain ⟨u, h6, h7⟩ := h5 j o z hj
      refine ⟨u, h6, ?_⟩
      cases z with
      | none =>
        obtain ⟨c, h8, h9⟩ := h7
        exact ⟨view ⟨s, o, []⟩ c, by simp [viewsFrom_get, h8], view_val hs h8 h9⟩
      | some n =>
        obtain ⟨a2, h8, h9, h10⟩ := h7
        refine ⟨a2, h8, h9, fun k hk => ?_⟩
        obtain ⟨u2, c, h11, h12, h13⟩ := h10 k hk
        exact ⟨u2, view ⟨s, o + k, []⟩ c, h11, by simp [viewsFrom_get, h12], view_val hs h12 h13⟩
    · simp at hr
  · simp only [beq_iff_eq] at ho; subst ho
    simp only [ev, Option.some.injEq] at hr; subst hr
    exact ⟨_, rfl, rfl, rfl⟩
  · simp only [Bool.and_eq_true, beq_iff_eq] at ho; obtain ⟨rfl, rfl⟩ := ho
    simp only [ev, Option.some.injEq] at hr; subst hr
    exact ⟨_, rfl, rfl, rfl⟩
  · simp only [decide_eq_true_eq] at ho; subst ho
    simp only [ev, Option.some.injEq] at hr; subst hr
    exact ⟨_, rfl, rfl, rfl⟩
  · simp only [ev, Option.some.injEq] at hr; subst hr
    exact ⟨_, rfl, rfl, rfl, rfl⟩
  · simp only [ev, Option.some.injEq] at hr; subst hr
    exact ⟨_, rfl, rfl, rfl⟩
  · simp at ho

theorem ev1_sound {w0 w : World} {M : MN} {E : Env} {σ : State} {a : Act} (h : Sim w0 M E σ a.tmps w) {x : Opd} {o : Operand} (ho : okOpd x o = true) {c : Cell} (hr : ev1 σ x = some c) :
    refVal w0 M σ E c (a.eval o) := by
  unfold ev1 at hr
  split at hr
  · rename_i c' he
    simp only [Option.some.injEq] at hr
    subst hr
    obtain ⟨c2, h1, h2⟩ := ev_sound h ho he
    simp only [List.cons.injEq, and_true] at h1
    rw [h1]; exact h2
  · simp at hr

/-! ### References that end -/

/-- What refers to a slot ends. -/
def Cell.cut (d : Nat) : Cell → Cell
  | .lnk pl sz lo n => if pl.s = d then .dead else .lnk pl sz lo n
  | .ptr pl => if pl.s = d then .dead else .ptr pl
  | c => c

def Slot.cut (d : Nat) (sl : Slot) : Slot := ⟨sl.sh, sl.cs.map (Cell.cut d), sl.hc⟩

def kill (d : Nat) (σ : State) : State := σ.map fun e => (e.1, e.2.cut d)

theorem get_kill (d : Nat) (σ : State) (s : Nat) : get (kill d σ) s = (get σ s).map (Slot.cut d) := by
  induction σ with
  | nil => rfl
  | cons a t ih =>
    obtain ⟨k, u⟩ := a
    simp only [kill, List.map_cons, get] at ih ⊢
    split
    · rfl
    · exact ih

theorem Cell.cut_cases (d : Nat) (c : Cell) : c.cut d = c ∧ c.root ≠ some d ∨ c.cut d = .dead ∧ c.root = some d := by
  cases c with
  | lnk pl sz lo n =>
    by_cases e : pl.s = d
    · exact .inr ⟨by simp [Cell.cut, e], by simp [Cell.root, e]⟩
    · exact .inl ⟨by simp [Cell.cut, e], by simp [Cell.root, e]⟩
  | ptr pl =>
    by_cases e : pl.s = d
    · exact .inr ⟨by simp [Cell.cut, e], by simp [Cell.root, e]⟩
    · exact .inl ⟨by simp [Cell.cut, e], by simp [Cell.root, e]⟩
  | _ => exact .inl ⟨rfl, by simp [Cell.root]⟩

theorem cut_p {d : Nat} {c : Cell} {x : PV} (h : c.cut d = .p x) : c = .p x := by
  rcases Cell.cut_cases d c with ⟨h1, -⟩ | ⟨h1, -⟩
  · rw [← h1]; exact h
  · rw [h1] at h; simp at h

theorem cut_of_p (d : Nat) (x : PV) : (Cell.p x).cut d = .p x := rfl

theorem node_kill (d : Nat) (σ : State) (pl : Place) : node (kill d σ) pl = node σ pl := by
  simp only [node, get_kill]
  cases get σ pl.s with
  | none => rfl
  | some sl =>
    simp only [Option.map_some, Option.bind_some, Slot.cut, List.getElem?_map]
    cases h : sl.cs[pl.c]? with
    | none => rfl
    | some c =>
      simp only [Option.map_some]
      rcases Cell.cut_cases d c with ⟨h1, -⟩ | ⟨h1, h2⟩
      · rw [h1]
      · rw [h1]
        cases c <;> simp [Cell.root] at h2 <;> rfl

theorem ptrOk_kill (d : Nat) (σ : State) (pl : Place) : ptrOk (kill d σ) pl ↔ ptrOk σ pl := by
  unfold ptrOk
  cases pl.q with
  | nil =>
    simp only [get_kill]
    constructor
    · rintro ⟨sl, h1, h2, h3⟩
      simp only [Option.map_eq_some_iff] at h1
      obtain ⟨s0, h4, rfl⟩ := h1
      exact ⟨s0, h4, h2, by simpa [Slot.cut] using h3⟩
    · rintro ⟨sl, h1, h2, h3⟩
      exact ⟨sl.cut d, by rw [h1]; rfl, h2, by simpa [Slot.cut] using h3⟩
  | cons a q => simp only [node_kill]

theorem fpOf_kill (E : Env) (d : Nat) (σ : State) (id : Nat × Option Nat) (a : Addr) : fpOf E (kill d σ) id a ↔ fpOf E σ id a := by
  obtain ⟨s, j⟩ := id
  cases j with
  | none =>
    simp only [fpOf, get_kill]
    constructor
    · rintro ⟨sl, h1, h2⟩
      simp only [Option.map_eq_some_iff] at h1
      obtain ⟨s0, h4, rfl⟩ := h1
      exact ⟨s0, h4, by simpa [Slot.cut] using h2⟩
    · rintro ⟨sl, h1, h2⟩
      exact ⟨sl.cut d, by rw [h1]; rfl, by simpa [Slot.cut] using h2⟩
  | some j =>
    simp only [fpOf, get_kill]
    constructor
    · rintro ⟨sl, x, h1, h2, h3⟩
      simp only [Option.map_eq_some_iff] at h1
      obtain ⟨s0, h4, rfl⟩ := h1
      simp only [Slot.cut, List.getElem?_map, Option.map_eq_some_iff] at h2
      obtain ⟨c, h5, h6⟩ := h2
      exact ⟨s0, x, h4, by rw [h5, cut_p h6], h3⟩
    · rintro ⟨sl, x, h1, h2, h3⟩
      exact ⟨sl.cut d, x, by rw [h1]; rfl, by simp [Slot.cut, h2, cut_of_p], h3⟩

theorem Sim.kill {w0 w : World} {M : MN} {E : Env} {σ : State} {ts : Array Value} (h : Sim w0 M E σ ts w) (d : Nat) : Sim w0 M E (kill d σ) ts w := by
  have hcell : ∀ s j c v, cellVal w0 M σ E s j c v → cellVal w0 M (Go.Tq.kill d σ) E s j (c.cut d) v := by
    intro s j c v hc
    rcases Cell.cut_cases d c with ⟨h1, -⟩ | ⟨h1, -⟩
    · rw [h1]
      refine cellVal_mono hc (fun _ _ => rfl) (fun pl sz lo len _ sz' es he => ?_) (fun pl _ hk => ?_)
      · rw [node_kill] at he
        exact ⟨es, he, Nat.le_refl _, rfl⟩
      · exact ⟨(ptrOk_kill d σ pl).1 hk, rfl⟩
    · rw [h1]; trivial
  refine ⟨?_, ?_, ?_, ?_, ?_, h.frame, h.fresh, h.apart⟩
  · intro s sl hs
    simp only [get_kill, Option.map_eq_some_iff] at hs
    obtain ⟨s0, hs0, rfl⟩ := hs
    obtain ⟨h1, h2⟩ := h.slots s s0 hs0
    refine ⟨h1, ?_⟩
    unfold slotVal at h2 ⊢
    simp only [Slot.cut]
    cases hsh : s0.sh with
    | one =>
      simp only [hsh] at h2 ⊢
      obtain ⟨c, h3, h4⟩ := h2
      exact ⟨c.cut d, by simp [h3], hcell _ _ _ _ h4⟩
    | agg =>
      simp only [hsh] at h2 ⊢
      obtain ⟨arr, h3, h4, h5⟩ := h2
      refine ⟨arr, h3, by simpa using h4, fun j c hj => ?_⟩
      simp only [List.getElem?_map, Option.map_eq_some_iff] at hj
      obtain ⟨c0, h6, rfl⟩ := hj
      obtain ⟨u, h7, h8⟩ := h5 j c0 h6
      exact ⟨u, h7, hcell _ _ _ _ h8⟩
    | box =>
      simp only [hsh] at h2 ⊢
      obtain ⟨h3, h4⟩ := h2
      refine ⟨h3, fun j c hj => ?_⟩
      simp only [List.getElem?_map, Option.map_eq_some_iff] at hj
      obtain ⟨c0, h6, rfl⟩ := hj
      obtain ⟨⟨u, h7, h8⟩, h9⟩ := h4 j c0 h6
      exact ⟨⟨u, h7, hcell _ _ _ _ h8⟩, h9⟩
    | tup l =>
      simp only [hsh] at h2 ⊢
      obtain ⟨arr, h3, h4, h5⟩ := h2
      refine ⟨arr, h3, h4, fun j o z hj => ?_⟩
      obtain ⟨u, h6, h7⟩ := h5 j o z hj
      refine ⟨u, h6, ?_⟩
      cases z with
      | none =>
        obtain ⟨c, h8, h9⟩ := h7
        exact ⟨c.cut d, by simp [h8], hcell _ _ _ _ h9⟩
      | some n =>
        obtain ⟨a2, h8, h9, h10⟩ := h7
        refine ⟨a2, h8, h9, fun k hk => ?_⟩
        obtain ⟨u2, c, h11, h12, h13⟩ := h10 k hk
        exact ⟨u2, c.cut d, h11, by simp [h12], hcell _ _ _ _ h13⟩
    | gone => trivial
  · intro s sl j x hs hj
    simp only [get_kill, Option.map_eq_some_iff] at hs
    obtain ⟨s0, hs0, rfl⟩ := hs
    simp only [Slot.cut, List.getElem?_map, Option.map_eq_some_iff] at hj
    obtain ⟨c, h5, h6⟩ := hj
    exact h.own s s0 j x hs0 (by rw [h5, cut_p h6])
  · intro id id' a hne h1 h2
    exact h.disj id id' a hne ((fpOf_kill E d σ id a).1 h1) ((fpOf_kill E d σ id' a).1 h2)
  · intro id a h1
    exact h.mine id a ((fpOf_kill E d σ id a).1 h1)
  · intro s sl j c r hs hj hc
    simp only [get_kill, Option.map_eq_some_iff] at hs
    obtain ⟨s0, hs0, rfl⟩ := hs
    simp only [Slot.cut, List.getElem?_map, Option.map_eq_some_iff] at hj
    obtain ⟨c0, h5, h6⟩ := hj
    rw [get_kill]
    rcases Cell.cut_cases d c0 with ⟨h7, -⟩ | ⟨h7, -⟩
    · rw [h7] at h6
      subst h6
      simpa using h.refs s s0 j c0 r hs0 h5 hc
    · rw [h7] at h6
      subst h6
      simp [Cell.root] at hc

/-- Behind it nothing refers to the slot. -/
theorem kill_root {d : Nat} {σ : State} {s : Nat} {sl : Slot} {j : Nat} {c : Cell} (hs : get (kill d σ) s = some sl) (hj : sl.cs[j]? = some c) : c.root ≠ some d := by
  simp only [get_kill, Option.map_eq_some_iff] at hs
  obtain ⟨s0, hs0, rfl⟩ := hs
  simp only [Slot.cut, List.getElem?_map, Option.map_eq_some_iff] at hj
  obtain ⟨c0, h5, rfl⟩ := hj
  rcases Cell.cut_cases d c0 with ⟨h7, h8⟩ | ⟨h7, h8⟩
  · rw [h7]; exact h8
  · rw [h7]; simp [Cell.root]

/-- A slot's new content: what refers to the slot ends first. -/
def putK (d : Nat) (sl : Slot) (σ : State) : State := match get σ d with
  | none => put σ d sl
  | some _ => put (kill d σ) d (sl.cut d)

/-- The slot may be laid: nothing refers to it, here. -/
structure Clean (d : Nat) (σ : State) : Prop where
  cl : ∀ s sl (j : Nat) c, get σ s = some sl → sl.cs[j]? = some c → c.root ≠ some d

theorem Sim.clean_absent {w0 w : World} {M : MN} {E : Env} {σ : State} {ts : Array Value} (h : Sim w0 M E σ ts w) {d : Nat} (hd : get σ d = none) : Clean d σ := ⟨by
  intro s sl j c hs hj hc
  have := h.refs s sl j c d hs hj hc
  rw [hd] at this
  simp at this⟩

theorem clean_kill (d : Nat) (σ : State) : Clean d (kill d σ) := ⟨fun _ _ _ _ hs hj => kill_root hs hj⟩

theorem Clean.slot {d : Nat} {sl : Slot} (h : ∀ (j : Nat) c, sl.cs[j]? = some c → c.root ≠ some d) : sl.cut d = sl := by
  cases sl with
  | mk sh cs hc =>
    simp only [Slot.cut, Slot.mk.injEq, true_and, and_true]
    apply List.ext_getElem?
    intro j
    simp only [List.getElem?_map]
    cases hj : cs[j]? with
    | none => rfl
    | some c =>
      simp only [Option.map_some, Option.some.injEq]
      rcases Cell.cut_cases d c with ⟨h7, -⟩ | ⟨-, h8⟩
      · exact h7
      · exact (h j c hj h8).elim

end Go.Tq
/- A slot gets a content that owns nothing. -/
namespace Go.Tq
open Go.RowKit

/-- What the cells refer to is there. -/
def RootsOk (σ : State) (cs : List Cell) : Prop := ∀ (j : Nat) c r, cs[j]? = some c → c.root = some r → (get σ r).isSome = true

/-- Cells that own nothing, of values that are. -/
def FlatCells (cs : List Cell) : Prop := ∀ (j : Nat) c, cs[j]? = some c → c.flat = true ∧ ∀ x, c = .p x → ∃ n v, pvVal n x v

theorem FlatCells.getR {cs : List Cell} (h : FlatCells cs) {j : Nat} {x y : PV} (hj : cs[j]? = some (.p x)) {q : Steps} (hq : x.getR q = some y) : q = [] ∧ y.flat = true := by
  obtain ⟨h1, h2⟩ := h j _ hj
  obtain ⟨n, v, h3⟩ := h2 x rfl
  rcases List.eq_nil_or_concat q with rfl | ⟨q', b, rfl⟩
  · simp only [PV.getR, Option.some.injEq] at hq
    subst hq
    exact ⟨rfl, h1⟩
  · rw [List.concat_eq_append, getR_flat h1] at hq
    · simp at hq
    · intro sz es e
      subst e
      exact h3.2

theorem FlatCells.node {cs : List Cell} (h : FlatCells cs) {σ : State} {d : Nat} {sh : Shape} {hc : Bool} {pl : Place} (hp : pl.s = d) {y : PV} (hn : node (put σ d ⟨sh, cs, hc⟩) pl = some y) : pl.q = [] ∧ y.flat = true := by
  subst hp
  simp only [Tq.node, get_put_same, Option.bind_some] at hn
  split at hn
  · rename_i x hx
    exact h.getR hx hn
  · simp at hn

theorem ValOk.flat {w0 : World} {M : MN} {σ : State} {E : Env} {x : Val} {v : Value} (h : ValOk w0 M σ E x v) (hsh : x.sh = .one ∨ x.sh = .agg) : FlatCells x.cs := by
  have key : ∀ c u, refVal w0 M σ E c u → c.flat = true ∧ ∀ y, c = .p y → ∃ n v, pvVal n y v := by
    intro c u hu
    refine ⟨hu.1, fun y hy => ?_⟩
    subst hy
    exact ⟨_, u, hu.2⟩
  intro j c hj
  unfold ValOk at h
  rcases hsh with e | e
  · simp only [e] at h
    obtain ⟨c0, h1, h2⟩ := h
    rw [h1] at hj
    cases j with
    | zero => simp only [List.getElem?_cons_zero, Option.some.injEq] at hj; subst hj; exact key _ _ h2
    | succ j => simp at hj
  · simp only [e] at h
    obtain ⟨arr, h1, h2, h3⟩ := h
    obtain ⟨u, h4, h5⟩ := h3 j c hj
    exact key _ _ h5

/-- The value of a slot, from the value that was read. -/
theorem ValOk.slot {w0 w : World} {M : MN} {σ σ' : State} {E E' : Env} {x : Val} {v : Value} {d : Nat} (h : ValOk w0 M σ E x v)
    (hc : ∀ (j : Nat) c u, x.cs[j]? = some c → refVal w0 M σ E c u → cellVal w0 M σ' E' d j c u) : slotVal w0 M σ' E' w d ⟨x.sh, x.cs, false⟩ v := by
  unfold ValOk at h
  unfold slotVal
  cases hsh : x.sh with
  | one =>
    simp only [hsh] at h ⊢
    obtain ⟨c, h1, h2⟩ := h
    exact ⟨c, h1, hc 0 c v (by rw [h1]; rfl) h2⟩
  | agg =>
    simp only [hsh] at h ⊢
    obtain ⟨arr, h1, h2, h3⟩ := h
    refine ⟨arr, h1, h2, fun j c hj => ?_⟩
    obtain ⟨u, h4, h5⟩ := h3 j c hj
    exact ⟨u, h4, hc j c u hj h5⟩
  | box => simp [hsh] at h
  | tup l =>
    simp only [hsh] at h ⊢
    obtain ⟨arr, h1, h2, h3⟩ := h
    refine ⟨arr, h1, h2, fun j o z hj => ?_⟩
    obtain ⟨u, h4, h5⟩ := h3 j o z hj
    refine ⟨u, h4, ?_⟩
    cases z with
    | none =>
      obtain ⟨c, h6, h7⟩ := h5
      exact ⟨c, h6, hc o c u h6 h7⟩
    | some n =>
      obtain ⟨a2, h6, h7, h8⟩ := h5
      refine ⟨a2, h6, h7, fun k hk => ?_⟩
      obtain ⟨u2, c, h9, h10, h11⟩ := h8 k hk
      exact ⟨u2, c, h9, h10, hc _ c u2 h10 h11⟩
  | gone => trivial

theorem sim_put_flat0 {w0 w : World} {M : MN} {E : Env} {σ : State} {ts : Array Value} (h : Sim w0 M E σ ts w) {d : Nat} (hd : d < ts.size) (hcl : Clean d σ) {x : Val} {v : Value} (hx : ValOk w0 M σ E x v)
    (hsh : x.sh ≠ .box) (hf : FlatCells x.cs) (hr : RootsOk σ x.cs) (hrd : ∀ (j : Nat) c, x.cs[j]? = some c → c.root ≠ some d) : Sim w0 M E (put σ d ⟨x.sh, x.cs, false⟩) (ts.setIfInBounds d v) w := by
  have nofp : ∀ (j : Option Nat) a, ¬ fpOf E (put σ d ⟨x.sh, x.cs, false⟩) (d, j) a := by
    intro j a hfp
    cases j with
    | none =>
      obtain ⟨sl, h1, h2, -⟩ := hfp
      rw [get_put_same] at h1
      simp only [Option.some.injEq] at h1
      subst h1
      exact hsh h2
    | some j =>
      obtain ⟨sl, y, h1, h2, h3⟩ := hfp
      rw [get_put_same] at h1
      simp only [Option.some.injEq] at h1
      subst h1
      obtain ⟨g1, g2⟩ := hf j _ h2
      obtain ⟨n, u, g3⟩ := g2 y rfl
      exact fp_flat g1 g3 h3
  refine h.upd d ⟨x.sh, x.cs, false⟩ v hd (fun _ _ => ⟨rfl, rfl⟩) (Shp.refl w) (fun _ _ _ _ u hu => hu) h.frame ?_ ?_ ?_ ?_ ?_ ?_ ?_ ?_
  · intro s sl' j pl sz lo len hne hs hj hp
    exact (hcl.cl s sl' j _ hs hj (by rw [← hp]; rfl)).elim
  · intro s sl' j pl hne hs hj hp
    exact (hcl.cl s sl' j _ hs hj (by rw [← hp]; rfl)).elim
  · refine hx.slot fun j c u hj hu => ?_
    refine cellVal_flat hu.1 (cellVal_mono hu.2 (fun _ _ => rfl) (fun pl sz lo len ex sz' es he => ?_) (fun pl ex hk => ?_))
    · have hne : d ≠ pl.s := fun e => hrd j c hj (by rw [ex, e]; rfl)
      rw [node_put_ne σ _ hne] at he
      exact ⟨es, he, Nat.le_refl _, rfl⟩
    · have hne : d ≠ pl.s := fun e => hrd j c hj (by rw [ex, e]; rfl)
      exact ⟨(ptrOk_put_ne σ _ hne).1 hk, rfl⟩
  · intro j y hj
    obtain ⟨g1, g2⟩ := hf j _ hj
    obtain ⟨n, u, g3⟩ := g2 y rfl
    exact ⟨u, Own.of_flat g1 (pvVal_flat g1 g3)⟩
  · rintro ⟨s, j⟩ ⟨s', j'⟩ a - h1 h2 h3
    simp only at h1; subst h1
    exact (nofp j a h3).elim
  · rintro ⟨s, j⟩ id' a h1 - h3
    simp only at h1; subst h1
    exact (nofp j a h3).elim
  · rintro ⟨s, j⟩ a h1 h3
    simp only at h1; subst h1
    exact (nofp j a h3).elim
  · intro j c r hj hc
    have := hr j c r hj hc
    rw [get_put]
    split
    · rfl
    · exact this

theorem refVal_kill {w0 : World} {M : MN} {σ : State} {E : Env} {c : Cell} {v : Value} (h : refVal w0 M σ E c v) (d : Nat) : refVal w0 M (kill d σ) E (c.cut d) v := by
  rcases Cell.cut_cases d c with ⟨h1, -⟩ | ⟨h1, -⟩
  · rw [h1]
    refine ⟨h.1, cellVal_mono h.2 (fun _ _ => rfl) (fun pl sz lo len _ sz' es he => ?_) (fun pl _ hk => ?_)⟩
    · rw [node_kill] at he
      exact ⟨es, he, Nat.le_refl _, rfl⟩
    · exact ⟨(ptrOk_kill d σ pl).1 hk, rfl⟩
  · rw [h1]; exact ⟨rfl, trivial⟩

theorem ValOk.kill {w0 : World} {M : MN} {σ : State} {E : Env} {x : Val} {v : Value} (h : ValOk w0 M σ E x v) (d : Nat) : ValOk w0 M (kill d σ) E ⟨x.sh, x.cs.map (Cell.cut d)⟩ v := by
  unfold ValOk at h ⊢
  cases hsh : x.sh with
  | one =>
    simp only [hsh] at h ⊢
    obtain ⟨c, h1, h2⟩ := h
    exact ⟨c.cut d, by simp [h1], refVal_kill h2 d⟩
  | agg =>
    simp only [hsh] at h ⊢
    obtain ⟨arr, h1, h2, h3⟩ := h
    refine ⟨arr, h1, by simpa using h2, fun j c hj => ?_⟩
    simp only [List.getElem?_map, Option.map_eq_some_iff] at hj
    obtain ⟨c0, h6, rfl⟩ := hj
    obtain ⟨u, h4, h5⟩ := h3 j c0 h6
    exact ⟨u, h4, refVal_kill h5 d⟩
  | tup l =>
    simp only [hsh] at h ⊢
    obtain ⟨arr, h1, h2, h3⟩ := h
    refine ⟨arr, h1, h2, fun j o z hj => ?_⟩
    obtain ⟨u, h4, h5⟩ := h3 j o z hj
    refine ⟨u, h4, ?_⟩
    cases z with
    | none =>
      obtain ⟨c, h6, h7⟩ := h5
      exact ⟨c.cut d, by simp [h6], refVal_kill h7 d⟩
    | some n =>
      obtain ⟨a2, h6, h7, h8⟩ := h5
      refine ⟨a2, h6, h7, fun k hk => ?_⟩
      obtain ⟨u2, c, h9, h10, h11⟩ := h8 k hk
      exact ⟨u2, c.cut d, h9, by simp [h10], refVal_kill h11 d⟩
  | box => simp [hsh] at h
  | gone => simp [hsh] at h

theorem cut_flat {d : Nat} {c : Cell} (h : c.flat = true) : (c.cut d).flat = true := by
  rcases Cell.cut_cases d c with ⟨h1, -⟩ | ⟨h1, -⟩
  · rw [h1]; exact h
  · rw [h1]; rfl

/-- A slot gets a content that owns nothing: the machine's step, and the world's. -/
theorem Sim.putFlat {w0 w : World} {M : MN} {E : Env} {σ : State} {ts : Array Value} (h : Sim w0 M E σ ts w) {d : Nat} (hd : d < ts.size) {x : Val} {v : Value} (hx : ValOk w0 M σ E x v)
    (hf : FlatCells x.cs) (hr : RootsOk σ x.cs) : Sim w0 M E (putK d ⟨x.sh, x.cs, false⟩ σ) (ts.setIfInBounds d v) w := by
  have hsh : x.sh ≠ .box := by
    intro e
    simp [ValOk, e] at hx
  unfold putK
  split
  · rename_i hg
    refine sim_put_flat0 h hd (h.clean_absent hg) hx hsh hf hr fun j c hj hc => ?_
    have := hr j c d hj hc
    rw [hg] at this
    simp at this
  · rename_i sl0 hg
    refine sim_put_flat0 (h.kill d) hd (clean_kill d σ) (hx.kill d) hsh ?_ ?_ ?_
    · intro j c hj
      simp only [List.getElem?_map, Option.map_eq_some_iff] at hj
      obtain ⟨c0, h6, rfl⟩ := hj
      obtain ⟨g1, g2⟩ := hf j c0 h6
      refine ⟨cut_flat g1, fun y hy => ?_⟩
      have := cut_p hy
      exact g2 y this
    · intro j c r hj hc
      simp only [List.getElem?_map, Option.map_eq_some_iff] at hj
      obtain ⟨c0, h6, rfl⟩ := hj
      rcases Cell.cut_cases d c0 with ⟨h7, -⟩ | ⟨h7, -⟩
      · rw [h7] at hc
        have := hr j c0 r h6 hc
        rw [get_kill]
        simpa using this
      · rw [h7] at hc
        simp [Cell.root] at hc
    · intro j c hj
      simp only [List.getElem?_map, Option.map_eq_some_iff] at hj
      obtain ⟨c0, h6, rfl⟩ := hj
      rcases Cell.cut_cases d c0 with ⟨h7, h8⟩ | ⟨h7, -⟩
      · rw [h7]; exact h8
      · rw [h7]; simp [Cell.root]

/-- What an operand's cells refer to is there. -/
theorem ev_roots {w0 w : World} {M : MN} {E : Env} {σ : State} {ts : Array Value} (h : Sim w0 M E σ ts w) {x : Opd} {r : Val} (hr : ev σ x = some r) : RootsOk σ r.cs := by
  have key : ∀ s sl, get σ s = some sl → RootsOk σ (viewsFrom s 0 sl.cs) := by
    intro s sl hs j c r hj hc
    simp only [viewsFrom_get, Option.map_eq_some_iff, Nat.zero_add] at hj
    obtain ⟨c0, h6, rfl⟩ := hj
    unfold view at hc
    split at hc
    · simp only [Cell.root, Option.some.injEq] at hc
      subst hc
      simp [hs]
    · exact h.refs s sl j c0 r hs h6 hc
  cases x with
  | t s =>
    simp only [ev] at hr
    split at hr
    · rename_i hs; simp only [Option.some.injEq] at hr; subst hr; exact key _ _ hs
    · rename_i hs; simp only [Option.some.injEq] at hr; subst hr; exact key _ _ hs
    · rename_i hs; simp only [Option.some.injEq] at hr; subst hr
      intro j c r hj hc
      cases j with
      | zero =>
        simp only [List.getElem?_cons_zero, Option.some.injEq] at hj
        subst hj
        simp only [Cell.root, Option.some.injEq] at hc
        subst hc
        simp [hs]
      | succ j => simp at hj
    · rename_i hs; simp only [Option.some.injEq] at hr; subst hr; exact key _ _ hs
    · simp at hr
  | k x =>
    simp only [ev, Option.some.injEq] at hr
    subst hr
    intro j c r hj hc
    cases j with
    | zero => simp only [List.getElem?_cons_zero, Option.some.injEq] at hj; subst hj; simp [Cell.root] at hc
    | succ j => simp at hj
  | nilp =>
    simp only [ev, Option.some.injEq] at hr
    subst hr
    intro j c r hj hc
    cases j with
    | zero => simp only [List.getElem?_cons_zero, Option.some.injEq] at hj; subst hj; simp [Cell.root] at hc
    | succ j => simp at hj

end Go.Tq
/- Operations whose result owns nothing: what they give, and that the machine gives it. -/
namespace Go.Tq
open Go.RowKit

def pSize (P : Program) (t : TypeId) : Option Nat := (P.info? t).map (·.size)
def pAgg (P : Program) (t : TypeId) : Option Bool := match P.underlying t with
  | some (.struct _) => some true
  | some (.array _ _) => some true
  | some _ => some false
  | none => none

theorem run_isAgg {P : Program} {t : TypeId} {b : Bool} (h : pAgg P t = some b) (w : World) : (isAgg t).run P w = .ok b w := by
  unfold pAgg at h
  cases hu : P.underlying t with
  | none => simp [hu] at h
  | some d =>
    simp only [isAgg, Sem.run_bind, run_underlying hu, Result.andThen]
    cases d <;> simp_all

theorem run_sizeOf {P : Program} {t : TypeId} {n : Nat} (h : pSize P t = some n) (w : World) : (sizeOf t).run P w = .ok n w := by
  unfold pSize at h
  cases hi : P.info? t with
  | none => simp [hi] at h
  | some i =>
    simp [hi] at h
    simp [sizeOf, typeInfo, hi, h]

/-! ### The operations -/

def Place.add (pl : Place) (n : Nat) : Place := match pl with
  | ⟨s, c, []⟩ => ⟨s, c + n, []⟩
  | ⟨s, c, (i, k) :: q⟩ => ⟨s, c, (i, k + n) :: q⟩

/-- The cell of memory at a place. -/
def cellAt (σ : State) (pl : Place) : Option Cell := match pl.q with
  | [] => match get σ pl.s with
    | some ⟨.box, cs, _⟩ => cs[pl.c]?
    | _ => none
  | _ :: _ => (node σ pl).map .p

def loadN (σ : State) (pl : Place) : Nat → Nat → Option (List Cell)
  | _, 0 => some []
  | j, n + 1 => match cellAt σ (pl.add j) with
    | some c => (loadN σ pl (j + 1) n).map (view (pl.add j) c :: ·)
    | none => none

/-- A cell of a tree that is only read. -/
def roCell : PV → Cell
  | .sl sz false es => .ro (.sl sz false es)
  | x => .p x

def loadC (σ : State) (n : Nat) : Cell → Option (List Cell)
  | .ptr pl => loadN σ pl 0 n
  | .rptr cs => if n ≤ cs.length then some ((cs.take n).map roCell) else none
  | _ => none

def binPV (op : BinOp) : PV → PV → Option PV
  | .int k a, .int k' b => match op with
    | .shl => if 0 ≤ b then some (.int k (k.wrap (a * 2 ^ (min b.toNat k.bits)))) else none
    | .shr => if 0 ≤ b then some (.int k (a.fdiv (2 ^ (min b.toNat k.bits)))) else none
    | _ => if k = k' then match op with
      | .add => some (.int k (k.wrap (a + b)))
      | .sub => some (.int k (k.wrap (a - b)))
      | .mul => some (.int k (k.wrap (a * b)))
      | .quo => if b = 0 then none else some (.int k (k.wrap (a.tdiv b)))
      | .rem => if b = 0 then none else some (.int k (a.tmod b))
      | .eql => some (.bool (decide (a = b)))
      | .neq => some (.bool (!decide (a = b)))
      | .lss => some (.bool (decide (a < b)))
      | .leq => some (.bool (decide (a ≤ b)))
      | .gtr => some (.bool (decide (b < a)))
      | .geq => some (.bool (decide (b ≤ a)))
      | .and => some (.int k (k.wrap (BitVec.ofInt k.bits a &&& BitVec.ofInt k.bits b).toNat))
      | .or => some (.int k (k.wrap (BitVec.ofInt k.bits a ||| BitVec.ofInt k.bits b).toNat))
      | .xor => some (.int k (k.wrap (BitVec.ofInt k.bits a ^^^ BitVec.ofInt k.bits b).toNat))
      | _ => none
      else none
  | .str a, .str b => match op with
    | .add => if a.size + b.size ≤ 9223372036854775807 then some (.str (a ++ b)) else none
    | .eql => some (.bool (a.toList == b.toList))
    | .neq => some (.bool (!(a.toList == b.toList)))
    | .lss => some (.bool (Op.bytesLess a.toList b.toList))
    | .leq => some (.bool (Op.bytesLess a.toList b.toList || a.toList == b.toList))
    | .gtr => some (.bool (!(Op.bytesLess a.toList b.toList || a.toList == b.toList)))
    | .geq => some (.bool (!Op.bytesLess a.toList b.toList))
    | _ => none
  | _, _ => none

def unPV (op : UnOp) : PV → Option PV
  | .int k n => match op with
    | .neg => some (.int k (k.wrap (0 - n)))
    | _ => none
  | .bool b => match op with
    | .not => some (.bool !b)
    | _ => none
  | _ => none

inductive FOp where
  | mov (x : Opd)
  | pick (c a b : Opd)
  | load (n : Option Nat) (x : Opd)
  | nilCheck (x : Opd)
  | bin (op : BinOp) (x y : Opd)
  | binB (neg : Bool) (x y : Opd)
  | cmpNil (neg : Bool) (x : Opd)
  | un (op : UnOp) (x : Opd)
  | conv (k : IntKind) (x : Opd)
  | fieldAddr (x : Opd) (off : Nat)
  | idxAddr (x i : Opd) (sz : Nat)
  | index (x i : Opd)
  | lenS (x : Opd)
  | len (x : Opd)
  | sliceS (x : Opd) (lo hi : Option Opd)
  | sliceL (x : Opd) (lo hi : Option Opd) (sz : Nat)

def one (c : Cell) : Val := ⟨.one, [c]⟩

/-- An alias whose slice is still there. -/
def lnkOk (σ : State) (pl : Place) : Bool := match node σ pl with
  | some (.sl _ false _) => true
  | _ => false

def evInt (σ : State) (x : Opd) : Option Int := match ev1 σ x with
  | some (.p (.int _ n)) => some n
  | _ => none

/-- A bound of a cut: none, or a number between. -/
def evBound (σ : State) (x : Option Opd) (dflt lim : Nat) : Option Nat := match x with
  | none => some dflt
  | some y => match evInt σ y with
    | some n => if 0 ≤ n ∧ n ≤ lim then some n.toNat else none
    | none => none

def FOp.ev (σ : State) : FOp → Option Val
  | .mov x => match Tq.ev σ x with
    | some ⟨.one, cs⟩ => some ⟨.one, cs⟩
    | some ⟨.agg, cs⟩ => some ⟨.agg, cs⟩
    | _ => none
  | .pick c a b => match ev1 σ c with
    | some (.p (.bool true)) => (ev1 σ a).map one
    | some (.p (.bool false)) => (ev1 σ b).map one
    | _ => none
  | .load none x => match ev1 σ x with
    | some c => match loadC σ 1 c with
      | some [c] => some (one c)
      | _ => none
    | none => none
  | .load (some n) x => match ev1 σ x with
    | some c => (loadC σ n c).map fun cs => ⟨.agg, cs⟩
    | none => none
  | .nilCheck x => match ev1 σ x with
    | some (.ptr pl) => if (cellAt σ pl).isSome then some (one (.ptr pl)) else none
    | some (.rptr cs) => some (one (.rptr cs))
    | _ => none
  | .bin op x y => match ev1 σ x, ev1 σ y with
    | some (.p a), some (.p b) => (binPV op a b).map fun r => one (.p r)
    | _, _ => none
  | .binB neg x y => match ev1 σ x, ev1 σ y with
    | some (.p (.bool a)), some (.p (.bool b)) => some (one (.p (.bool (if neg then !(a == b) else a == b))))
    | _, _ => none
  | .cmpNil neg x => match ev1 σ x with
    | some (.p (.sl _ true _)) => some (one (.p (.bool (!neg))))
    | some (.lnk pl _ _ _) => if lnkOk σ pl then some (one (.p (.bool neg))) else none
    | some (.ro (.sl _ false _)) => some (one (.p (.bool neg)))
    | _ => none
  | .un op x => match ev1 σ x with
    | some (.p a) => (unPV op a).map fun r => one (.p r)
    | _ => none
  | .conv k x => match ev1 σ x with
    | some (.p (.int _ n)) => some (one (.p (.int k (k.wrap n))))
    | _ => none
  | .fieldAddr x off => match ev1 σ x with
    | some (.ptr pl) => if (cellAt σ pl).isSome then some (one (.ptr (pl.add off))) else none
    | some (.rptr cs) => some (one (.rptr (cs.drop off)))
    | _ => none
  | .idxAddr x i sz => match ev1 σ x, evInt σ i with
    | some (.lnk pl z lo ln), some n => if 0 ≤ n ∧ n < ln ∧ lnkOk σ pl ∧ z = sz then some (one (.ptr ⟨pl.s, pl.c, (lo + n.toNat, 0) :: pl.q⟩)) else none
    | some (.ro (.sl z false es)), some n => if 0 ≤ n ∧ z = sz then (es[n.toNat]?).map fun cs => one (.rptr cs) else none
    | _, _ => none
  | .index x i => match ev1 σ x, evInt σ i with
    | some (.p (.str s)), some n => if 0 ≤ n then (s[n.toNat]?).map fun b => one (.p (.int .u8 b.toNat)) else none
    | _, _ => none
  | .lenS x => match ev1 σ x with
    | some (.p (.str s)) => some (one (.p (.int .i64 s.size)))
    | _ => none
  | .len x => match ev1 σ x with
    | some (.p (.sl _ true _)) => some (one (.p (.int .i64 0)))
    | some (.ro (.sl _ false es)) => some (one (.p (.int .i64 es.length)))
    | some (.lnk pl _ _ ln) => if lnkOk σ pl then some (one (.p (.int .i64 ln))) else none
    | _ => none
  | .sliceS x lo hi => match ev1 σ x with
    | some (.p (.str s)) => match evBound σ hi s.size s.size with
      | some h => (evBound σ lo 0 h).map fun l => one (.p (.str (s.extract l h)))
      | none => none
    | _ => none
  | .sliceL x lo hi sz => match ev1 σ x with
    | some (.lnk pl z l0 ln) => if lnkOk σ pl ∧ z = sz then match evBound σ hi ln ln with
        | some h => (evBound σ lo 0 h).map fun l => one (.lnk pl z (l0 + l) (h - l))
        | none => none
      else none
    | some (.p (.sl z true es)) => match evBound σ hi 0 0 with
      | some h => (evBound σ lo 0 h).map fun _ => one (.p (.sl z true es))
      | none => none
    | _ => none

def okOpdO : Option Opd → Option Operand → Bool
  | none, none => true
  | some x, some o => okOpd x o
  | _, _ => false

/-- A call of a builtin with these operands. -/
def isBuiltin (b : Builtin) (op : Op) : Option (List Operand × List TypeId) := match op with
  | .call c => match c.callee with
    | .builtin b' => if b = b' then some (c.args.toList, c.argTypes.toList) else none
    | _ => none
  | _ => none

theorem isBuiltin_some {b : Builtin} {op : Op} {as : List Operand} {ts : List TypeId} (h : isBuiltin b op = some (as, ts)) : op = .call ⟨.builtin b, as.toArray, ts.toArray⟩ := by
  unfold isBuiltin at h
  split at h
  · rename_i c
    obtain ⟨cal, ar, at'⟩ := c
    simp only at h
    split at h
    · rename_i b' _
      split at h
      · rename_i hb
        simp only [Option.some.injEq, Prod.mk.injEq] at h
        obtain ⟨rfl, rfl⟩ := h
        subst hb
        rfl
      · simp at h
    · simp at h
  · simp at h

/-- The machine's operation is the one that is told. -/
def FOp.ok (P : Program) (f : FOp) (op : Op) : Bool := match f with
  | .mov x => match op with
    | .move o => okOpd x o
    | .assign o => okOpd x o
    | _ => false
  | .pick c a b => match op with
    | .pick c' a' b' => okOpd c c' && okOpd a a' && okOpd b b'
    | _ => false
  | .load none x => match op with
    | .load t o => okOpd x o && pAgg P t == some false
    | _ => false
  | .load (some n) x => match op with
    | .load t o => okOpd x o && pAgg P t == some true && pSize P t == some n && n != 0
    | _ => false
  | .nilCheck x => match op with
    | .nilCheck o => okOpd x o
    | _ => false
  | .bin op1 x y => match op with
    | .binOp op' _ a b _ => op1 == op' && okOpd x a && okOpd y b
    | _ => false
  | .binB neg x y => match op with
    | .binOp op t a b _ => (op == if neg then .neq else .eql) && okOpd x a && okOpd y b && (match P.underlying t with | some .bool => true | _ => false)
    | _ => false
  | .cmpNil neg x => match op with
    | .binOp op t a (.const (.slice none 0 0)) _ => okOpd x a && (op == if neg then .neq else .eql) && (match P.underlying t with | some (.slice _) => true | _ => false)
    | _ => false
  | .un op1 x => match op with
    | .unOp op' _ a => op1 == op' && okOpd x a
    | _ => false
  | .conv k x => match op with
    | .convert src dst a => okOpd x a && (match P.underlying dst with | some (.int k') => k == k' | _ => false) && (P.underlying src).isSome
    | _ => false
  | .fieldAddr x off => match op with
    | .fieldAddr t a f => okOpd x a && (match P.underlying t with
      | some (.struct fs) => (match fs[f]? with | some fd => fd.offset == off && (match pSize P fd.type with | some z => z != 0 | none => false) | none => false)
      | _ => false)
    | _ => false
  | .idxAddr x i sz => match op with
    | .indexAddr t a b => okOpd x a && okOpd i b && (match P.underlying t with | some (.slice e) => pSize P e == some sz | _ => false)
    | _ => false
  | .index x i => match op with
    | .index t a b => okOpd x a && okOpd i b && (match P.underlying t with | some .string => true | _ => false)
    | _ => false
  | .lenS x => match isBuiltin .len op with
    | some ([a], [t]) => okOpd x a && (match P.underlying t with | some .string => true | _ => false)
    | _ => false
  | .len x => match isBuiltin .len op with
    | some ([a], [t]) => okOpd x a && (match P.underlying t with | some (.slice _) => true | _ => false)
    | _ => false
  | .sliceS x lo hi => match op with
    | .slice t a l h none => okOpd x a && okOpdO lo l && okOpdO hi h && (match P.underlying t with | some .string => true | _ => false)
    | _ => false
  | .sliceL x lo hi sz => match op with
    | .slice t a l h none => okOpd x a && okOpdO lo l && okOpdO hi h && (match P.underlying t with | some (.slice e) => pSize P e == some sz | _ => false)
    | _ => false

end Go.Tq
/- Reading memory: what stands at a place of the machine's state stands in the world. -/
namespace Go.Tq
open Go.RowKit

theorem Frame.cell {w0 w : World} {M : MN} (h : Frame w0 M w) {b o : Nat} {u : Value} (hm : ¬ M ⟨b, o, none⟩) (hu : w0.cell? ⟨b, o, none⟩ = some u) : w.cell? ⟨b, o, none⟩ = some u := by
  obtain ⟨c, e, fz, h1, -, h2⟩ := cell_some_block hu
  obtain ⟨c', h3, h4, h5⟩ := h.cells _ _ _ _ h1
  rw [cell_of_block h3 rfl]
  exact (h5 o hm).trans h2

theorem cellAt_ptrOk {σ : State} {pl : Place} (h : (cellAt σ pl).isSome = true) : ptrOk σ pl := by
  unfold cellAt at h
  unfold ptrOk
  cases hq : pl.q with
  | nil =>
    simp only [hq] at h ⊢
    split at h
    · rename_i cs hc hs
      refine ⟨_, hs, rfl, ?_⟩
      obtain ⟨c, hc2⟩ := Option.isSome_iff_exists.1 h
      exact (List.getElem?_eq_some_iff.1 hc2).1
    · simp at h
  | cons a q =>
    simp only [hq] at h ⊢
    simpa using h

theorem Env.addr_add (E : Env) (pl : Place) (n : Nat) : E.addr (pl.add n) = (E.addr pl).add n := by
  obtain ⟨s, c, q⟩ := pl
  cases q with
  | nil => simp only [Place.add, Env.addr, Env.bcell, Addr.add_lit, Nat.add_assoc]
  | cons a q =>
    obtain ⟨i, k⟩ := a
    simp only [Place.add, Env.addr, Node.cell, Addr.add_lit, Nat.add_assoc]

theorem Place.add_zero (pl : Place) : pl.add 0 = pl := by
  obtain ⟨s, c, q⟩ := pl
  cases q with
  | nil => rfl
  | cons a q => rfl

theorem Place.add_s (pl : Place) (n : Nat) : (pl.add n).s = pl.s := by
  obtain ⟨s, c, q⟩ := pl
  cases q with
  | nil => rfl
  | cons a q => rfl

theorem node_some {σ : State} {pl : Place} {x : PV} (h : node σ pl = some x) : ∃ sl y, get σ pl.s = some sl ∧ sl.cs[pl.c]? = some (.p y) ∧ y.getR pl.q = some x := by
  unfold node at h
  cases hs : get σ pl.s with
  | none => simp [hs] at h
  | some sl =>
    simp only [hs, Option.bind_some] at h
    split at h
    · rename_i y hy
      exact ⟨sl, y, rfl, hy, h⟩
    · simp at h

/-- The cell of memory at a place, read. -/
theorem Sim.read {w0 w : World} {M : MN} {E : Env} {σ : State} {ts : Array Value} (h : Sim w0 M E σ ts w) {pl : Place} {c : Cell} (hc : cellAt σ pl = some c) :
    ∃ u, w.cell? (E.addr pl) = some u ∧ refVal w0 M σ E (view pl c) u ∧ ∀ r, (view pl c).root = some r → (get σ r).isSome = true := by
  obtain ⟨s, cc, q⟩ := pl
  unfold cellAt at hc
  cases q with
  | nil =>
    simp only at hc
    split at hc
    · rename_i cs hcc hs
      obtain ⟨h1, h2⟩ := h.slots _ _ hs
      simp only [slotVal] at h2
      obtain ⟨⟨u, h3, h4⟩, -⟩ := h2.2 cc c hc
      refine ⟨u, h3, view_val hs hc h4, fun r hr => ?_⟩
      unfold view at hr
      split at hr
      · simp only [Cell.root, Option.some.injEq] at hr
        subst hr
        simp [hs]
      · exact h.refs s _ cc c r hs hc hr
    · simp at hc
  | cons a q =>
    obtain ⟨i, k⟩ := a
    simp only [Option.map_eq_some_iff] at hc
    obtain ⟨x, hx, rfl⟩ := hc
    obtain ⟨sl, y, h1, h2, h3⟩ := node_some hx
    obtain ⟨v, h4⟩ := h.own s sl cc y h1 h2
    obtain ⟨u, h5, h6⟩ := h4.cell q i k x h3
    refine ⟨u, h5, ⟨view_flat _ _, ?_⟩, fun r hr => ?_⟩
    · unfold view
      split
      · rename_i sz es he
        simp only [Cell.p.injEq] at he
        subst he
        intro sz' es' hn
        rw [hx] at hn
        simp only [Option.some.injEq, PV.sl.injEq, true_and] at hn
        obtain ⟨rfl, rfl⟩ := hn
        refine ⟨rfl, by omega, (E.A s cc ((i, k) :: q)).off, ?_, fun _ => by simp [Env.at]⟩
        simp only [pvVal] at h6
        rw [h6]
        simp [Env.at, Node.base]
      · rename_i hn
        refine pvVal_flat ?_ h6
        cases x <;> try rfl
        rename_i sz nl es
        cases nl
        · exact (hn sz es rfl).elim
        · rfl
    · unfold view at hr
      split at hr
      · simp only [Cell.root, Option.some.injEq] at hr
        subst hr
        simp [h1]
      · simp [Cell.root] at hr

theorem loadN_sound {w0 w : World} {M : MN} {E : Env} {σ : State} {ts : Array Value} (h : Sim w0 M E σ ts w) {pl : Place} {n : Nat} : ∀ {j : Nat} {cs : List Cell}, loadN σ pl j n = some cs →
    ∃ us : List Value, us.length = n ∧ cs.length = n ∧ (∀ (i : Nat) u, us[i]? = some u → w.cell? ((E.addr pl).add (j + i)) = some u) ∧ (∀ (i : Nat) c, cs[i]? = some c → ∃ u, us[i]? = some u ∧ refVal w0 M σ E c u) ∧ RootsOk σ cs := by
  induction n with
  | zero =>
    intro j cs hl
    simp only [loadN, Option.some.injEq] at hl
    subst hl
    exact ⟨[], rfl, rfl, by simp, by simp, by intro j c r hj; simp at hj⟩
  | succ n ih =>
    intro j cs hl
    simp only [loadN] at hl
    split at hl
    · rename_i c hc
      simp only [Option.map_eq_some_iff] at hl
      obtain ⟨cs', h1, rfl⟩ := hl
      obtain ⟨us, g1, g2, g3, g4, g5⟩ := ih h1
      obtain ⟨u, f1, f2, f3⟩ := h.read hc
      rw [Env.addr_add] at f1
      refine ⟨u :: us, by simp [g1], by simp [g2], ?_, ?_, ?_⟩
      · intro i v hv
        cases i with
        | zero => simp only [List.getElem?_cons_zero, Option.some.injEq] at hv; subst hv; exact f1
        | succ i =>
          simp only [List.getElem?_cons_succ] at hv
          have e : j + (i + 1) = j + 1 + i := by omega
          rw [e]; exact g3 i v hv
      · intro i c' hi
        cases i with
        | zero => simp only [List.getElem?_cons_zero, Option.some.injEq] at hi; subst hi; exact ⟨u, rfl, f2⟩
        | succ i =>
          simp only [List.getElem?_cons_succ] at hi
          exact g4 i c' hi
      · intro i c' r hi hr
        cases i with
        | zero => simp only [List.getElem?_cons_zero, Option.some.injEq] at hi; subst hi; exact f3 r hr
        | succ i =>
          simp only [List.getElem?_cons_succ] at hi
          exact g5 i c' r hi hr
    · simp at hl

theorem roCell_val {w0 : World} {M : MN} {σ : State} {E : Env} {x : PV} {u : Value} {α : Lay} (h : Ro w0 M.n x u α) : refVal w0 M σ E (roCell x) u := by
  unfold roCell
  split
  · exact ⟨rfl, α, h⟩
  · rename_i hn
    have hf : x.flat = true := by
      cases x <;> try rfl
      rename_i sz nl es
      cases nl
      · exact (hn sz es rfl).elim
      · rfl
    exact ⟨hf, pvVal_flat hf h.val⟩

theorem roCell_root (x : PV) : (roCell x).root = none := by
  unfold roCell
  split <;> rfl

/-- What an address leads to, read. -/
theorem loadC_sound {w0 w : World} {M : MN} {E : Env} {σ : State} {ts : Array Value} (h : Sim w0 M E σ ts w) {c : Cell} {v : Value} (hv : refVal w0 M σ E c v) {n : Nat} (hn : n ≠ 0) {cs : List Cell} (hl : loadC σ n c = some cs) :
    ∃ (a : Addr) (us : List Value), v = .pointer (some a) ∧ us.length = n ∧ cs.length = n ∧ (∀ (i : Nat) u, us[i]? = some u → w.cell? (a.add i) = some u) ∧ (∀ (i : Nat) c, cs[i]? = some c → ∃ u, us[i]? = some u ∧ refVal w0 M σ E c u) ∧ RootsOk σ cs := by
  cases c with
  | ptr pl =>
    simp only [loadC] at hl
    obtain ⟨us, g1, g2, g3, g4, g5⟩ := loadN_sound h hl
    have hok : ptrOk σ pl := by
      cases n with
      | zero => exact (hn rfl).elim
      | succ n =>
        simp only [loadN, Place.add_zero] at hl
        split at hl
        · rename_i c hc
          exact cellAt_ptrOk (by simp [hc])
        · simp at hl
    exact ⟨E.addr pl, us, hv.2 hok, g1, g2, by simpa using g3, g4, g5⟩
  | rptr ps =>
    simp only [loadC] at hl
    split at hl
    · rename_i hle
      simp only [Option.some.injEq] at hl
      subst hl
      obtain ⟨b, o, h1, h2⟩ := hv.2
      have hex : ∀ j, j < ps.length → ∃ u, w.cell? ⟨b, o + j, none⟩ = some u ∧ ∀ x, ps[j]? = some x → refVal w0 M σ E (roCell x) u := by
        intro j hj
        obtain ⟨u, α, h3, h4, h5⟩ := h2 j _ (List.getElem?_eq_getElem hj)
        refine ⟨u, h.frame.cell (h.apart _ h4).1 h3, fun x hx => ?_⟩
        rw [List.getElem?_eq_getElem hj] at hx
        simp only [Option.some.injEq] at hx
        subst hx
        exact roCell_val h5
      let f : Nat → Value := fun j => if hj : j < ps.length then Classical.choose (hex j hj) else default
      have hf : ∀ j (hj : j < ps.length), w.cell? ⟨b, o + j, none⟩ = some (f j) ∧ ∀ x, ps[j]? = some x → refVal w0 M σ E (roCell x) (f j) := by
        intro j hj
        simp only [f, hj, dite_true]
        exact Classical.choose_spec (hex j hj)
      refine ⟨⟨b, o, none⟩, (List.range n).map f, h1, by simp, by simp; omega, ?_, ?_, ?_⟩
      · intro i u hi
        simp only [List.getElem?_map, Option.map_eq_some_iff] at hi
        obtain ⟨j, hj, rfl⟩ := hi
        have hij : i < n := by
          have := (List.getElem?_eq_some_iff.1 hj).1
          simpa using this
        have hji : j = i := by
          rw [List.getElem?_range hij] at hj
          simpa using hj.symm
        subst hji
        rw [Addr.add_lit]
        exact (hf j (by omega)).1
      · intro i c hi
        simp only [List.getElem?_map, Option.map_eq_some_iff] at hi
        obtain ⟨x, hx, rfl⟩ := hi
        rw [List.getElem?_take] at hx
        split at hx
        · rename_i hin
          have hlt : i < ps.length := (List.getElem?_eq_some_iff.1 hx).1
          refine ⟨f i, by simp [List.getElem?_range hin], (hf i hlt).2 x hx⟩
        · simp at hx
      · intro i c r hi hr
        simp only [List.getElem?_map, Option.map_eq_some_iff] at hi
        obtain ⟨x, hx, rfl⟩ := hi
        rw [roCell_root] at hr
        simp at hr
    · simp at hl
  | _ => simp [loadC] at hl

end Go.Tq
/- The operations whose result owns nothing are sound. -/
namespace Go.Tq
open Go.RowKit

def Gives (P : Program) (a : Act) (o : Oper) (w : World) (w0 : World) (M : MN) (σ : State) (E : Env) (r : Val) : Prop :=
  ∃ v, (execOp a.eval o).run P w = .ok (.value v) w ∧ ValOk w0 M σ E r v ∧ (r.sh = .one ∨ r.sh = .agg) ∧ RootsOk σ r.cs

section
variable {P : Program} {a : Act} {o : Oper} {w w0 : World} {M : MN} {σ : State} {E : Env}

theorem rootsOk_one {c : Cell} (h : ∀ r, c.root = some r → (get σ r).isSome = true) : RootsOk σ [c] := by
  intro j c' r hj hr
  cases j with
  | zero => simp only [List.getElem?_cons_zero, Option.some.injEq] at hj; subst hj; exact h r hr
  | succ j => simp at hj

theorem rootsOk_p (x : PV) : RootsOk σ [.p x] := rootsOk_one (by simp [Cell.root])

theorem valOk_one {c : Cell} {v : Value} (h : refVal w0 M σ E c v) : ValOk w0 M σ E (one c) v := ⟨c, rfl, h⟩

theorem refVal_p {x : PV} {v : Value} (hf : x.flat = true) (h : pvVal ⟨0, 0, 0, 0⟩ x v) : refVal w0 M σ E (.p x) v := ⟨hf, pvVal_flat hf h⟩

theorem ev1_root (h : Sim w0 M E σ a.tmps w) {x : Opd} {c : Cell} (hx : ev1 σ x = some c) : ∀ r, c.root = some r → (get σ r).isSome = true := by
  unfold ev1 at hx
  split at hx
  · rename_i c' he
    simp only [Option.some.injEq] at hx
    subst hx
    exact fun r hr => ev_roots h he 0 _ r rfl hr
  · simp at hx

/-- A number that is read. -/
theorem evInt_sound (h : Sim w0 M E σ a.tmps w) {x : Opd} {y : Operand} (ho : okOpd x y = true) {n : Int} (hx : evInt σ x = some n) : ∃ k, a.eval y = .int k n := by
  unfold evInt at hx
  split at hx
  · rename_i k n' he
    simp only [Option.some.injEq] at hx
    subst hx
    exact ⟨k, (ev1_sound h ho he).2⟩
  · simp at hx

theorem gives_mov (h : Sim w0 M E σ a.tmps w) {x : Opd} {y : Operand} (hop : o.op = .move y ∨ o.op = .assign y) (ho : okOpd x y = true) {r : Val} (hr : (FOp.mov x).ev σ = some r) : Gives P a o w w0 M σ E r := by
  have hrun : (execOp a.eval o).run P w = .ok (.value (a.eval y)) w := by
    rcases hop with e | e <;> simp [execOp, e]
  simp only [FOp.ev] at hr
  split at hr
  · rename_i cs he
    simp only [Option.some.injEq] at hr; subst hr
    exact ⟨_, hrun, ev_sound h ho he, .inl rfl, ev_roots h he⟩
  · rename_i cs he
    simp only [Option.some.injEq] at hr; subst hr
    exact ⟨_, hrun, ev_sound h ho he, .inr rfl, ev_roots h he⟩
  · simp at hr

theorem gives_pick (h : Sim w0 M E σ a.tmps w) {c x z : Opd} {c' x' z' : Operand} (hop : o.op = .pick c' x' z') (ho : okOpd c c' = true) (ho1 : okOpd x x' = true) (ho2 : okOpd z z' = true) {r : Val} (hr : (FOp.pick c x z).ev σ = some r) : Gives P a o w w0 M σ E r := by
  simp only [FOp.ev] at hr
  split at hr
  · rename_i he
    simp only [Option.map_eq_some_iff] at hr
    obtain ⟨y, h1, rfl⟩ := hr
    have hc : a.eval c' = .bool true := (ev1_sound h ho he).2
    exact ⟨a.eval x', by simp [execOp, hop, hc, asBool], valOk_one (ev1_sound h ho1 h1), .inl rfl, rootsOk_one (ev1_root h h1)⟩
  · rename_i he
    simp only [Option.map_eq_some_iff] at hr
    obtain ⟨y, h1, rfl⟩ := hr
    have hc : a.eval c' = .bool false := (ev1_sound h ho he).2
    exact ⟨a.eval z', by simp [execOp, hop, hc, asBool], valOk_one (ev1_sound h ho2 h1), .inl rfl, rootsOk_one (ev1_root h h1)⟩
  · simp at hr

theorem gives_load1 (h : Sim w0 M E σ a.tmps w) {x : Opd} {t : TypeId} {y : Operand} (hop : o.op = .load t y) (ho : okOpd x y = true) (ht : pAgg P t = some false) {r : Val} (hr : (FOp.load none x).ev σ = some r) : Gives P a o w w0 M σ E r := by
  simp only [FOp.ev] at hr
  split at hr
  · rename_i c he
    split at hr
    · rename_i c1 hl
      simp only [Option.some.injEq] at hr; subst hr
      obtain ⟨ad, us, h1, h2, h3, h4, h5, h6⟩ := loadC_sound h (ev1_sound h ho he) (by decide) hl
      obtain ⟨u, h7, h8⟩ := h5 0 c1 rfl
      have h9 := h4 0 u h7
      rw [Addr.add_zero'] at h9
      exact ⟨u, by simp [execOp, hop, h1, Instr.loadAt, Instr.sureAddr, loadVar, run_isAgg ht, h9], valOk_one h8, .inl rfl, h6⟩
    · simp at hr
  · simp at hr

theorem gives_loadN (h : Sim w0 M E σ a.tmps w) {x : Opd} {t : TypeId} {y : Operand} {n : Nat} (hop : o.op = .load t y) (ho : okOpd x y = true) (ht : pAgg P t = some true) (hs : pSize P t = some n) (hn : n ≠ 0) {r : Val} (hr : (FOp.load (some n) x).ev σ = some r) : Gives P a o w w0 M σ E r := by
  simp only [FOp.ev] at hr
  split at hr
  · rename_i c he
    simp only [Option.map_eq_some_iff] at hr
    obtain ⟨cs, hl, rfl⟩ := hr
    obtain ⟨ad, us, h1, h2, h3, h4, h5, h6⟩ := loadC_sound h (ev1_sound h ho he) hn hl
    have hld := run_loadCells_list (P := P) w ad us h4
    rw [h2] at hld
    refine ⟨.agg us.toArray, by simp [execOp, hop, h1, Instr.loadAt, Instr.sureAddr, loadVar, run_isAgg ht, run_sizeOf hs, hld], ⟨us.toArray, rfl, by simp [h2, h3], fun j c hj => ?_⟩, .inr rfl, h6⟩
    obtain ⟨u, h7, h8⟩ := h5 j c hj
    exact ⟨u, by simpa using h7, h8⟩
  · simp at hr

theorem gives_nilCheck (h : Sim w0 M E σ a.tmps w) {x : Opd} {y : Operand} (hop : o.op = .nilCheck y) (ho : okOpd x y = true) {r : Val} (hr : (FOp.nilCheck x).ev σ = some r) : Gives P a o w w0 M σ E r := by
  simp only [FOp.ev] at hr
  split at hr
  · rename_i pl he
    split at hr
    · rename_i hc
      simp only [Option.some.injEq] at hr; subst hr
      have hv := ev1_sound h ho he
      have hp : a.eval y = .pointer (some (E.addr pl)) := hv.2 (cellAt_ptrOk hc)
      exact ⟨a.eval y, by simp [execOp, hop, hp], valOk_one hv, .inl rfl, rootsOk_one (ev1_root h he)⟩
    · simp at hr
  · rename_i cs he
    simp only [Option.some.injEq] at hr; subst hr
    have hv := ev1_sound h ho he
    obtain ⟨b, of, hp, h2⟩ := hv.2
    exact ⟨a.eval y, by simp [execOp, hop, hp], valOk_one hv, .inl rfl, rootsOk_one (ev1_root h he)⟩
  · simp at hr

/-- A scalar tree's value. -/
def pvV : PV → Value
  | .bool x => .bool x
  | .int k n => .int k n
  | .str s => .string s
  | _ => .slice none 0 0

theorem run_binPV {op : BinOp} {p q r : PV} {t : TypeId} (hb : binPV op p q = some r) {x y : Operand} {u v : Value} {n : Node} (hu : pvVal n p u) (hv : pvVal n q v) :
    ((do eqGuard op t x y u v; binOp op t u v : Sem Value)).run P w = .ok (pvV r) w ∧ pvVal n r (pvV r) ∧ r.flat = true := by
  cases p <;> cases q <;> simp only [binPV, reduceCtorEq] at hb
  case int.int k x' k' y' =>
    simp only [pvVal] at hu hv
    subst hu; subst hv
    cases op <;> simp only [] at hb
    case shl =>
      split at hb
      · rename_i h0
        simp only [Option.some.injEq] at hb; subst hb
        exact ⟨by simp [go_sem, Op.shift, show ¬ y' < 0 by omega, pvV], rfl, rfl⟩
      · simp at hb
    case shr =>
      split at hb
      · rename_i h0
        simp only [Option.some.injEq] at hb; subst hb
        exact ⟨by simp [go_sem, Op.shift, show ¬ y' < 0 by omega, pvV], rfl, rfl⟩
      · simp at hb
    case eql =>
      split at hb
      · rename_i hk
        subst hk
        simp only [Option.some.injEq] at hb; subst hb
        exact ⟨by simp [go_sem, pvV]; rfl, rfl, rfl⟩
      · simp at hb
    case neq =>
      split at hb
      · rename_i hk
        subst hk
        simp only [Option.some.injEq] at hb; subst hb
        exact ⟨by simp [go_sem, pvV]; rfl, rfl, rfl⟩
      · simp at hb
    case andNot => simp at hb
    case quo =>
      split at hb
      · rename_i hk
        subst hk
        split at hb
        · simp at hb
        · rename_i h0
          simp only [Option.some.injEq] at hb; subst hb
          exact ⟨by simp [go_sem, pvV, h0], rfl, rfl⟩
      · simp at hb
    case rem =>
      split at hb
      · rename_i hk
        subst hk
        split at hb
        · simp at hb
        · rename_i h0
          simp only [Option.some.injEq] at hb; subst hb
          exact ⟨by simp [go_sem, pvV, h0], rfl, rfl⟩
      · simp at hb
    case and =>
      split at hb
      · rename_i hk
        subst hk
        simp only [Option.some.injEq] at hb; subst hb
        exact ⟨by simp [binOp, Op.intBits, pvV, eqGuard_and], rfl, rfl⟩
      · simp at hb
    case or =>
      split at hb
      · rename_i hk
        subst hk
        simp only [Option.some.injEq] at hb; subst hb
        exact ⟨by simp [binOp, Op.intBits, pvV, eqGuard_or], rfl, rfl⟩
      · simp at hb
    case xor =>
      split at hb
      · rename_i hk
        subst hk
        simp only [Option.some.injEq] at hb; subst hb
        exact ⟨by simp [binOp, Op.intBits, pvV, eqGuard_xor], rfl, rfl⟩
      · simp at hb
    all_goals
      split at hb
      · rename_i hk
        subst hk
        simp only [Option.some.injEq] at hb; subst hb
        exact ⟨by simp [go_sem, pvV], rfl, rfl⟩
      · simp at hb
  case str.str s s' =>
    simp only [pvVal] at hu hv
    subst hu; subst hv
    have hg : eqGuard op t x y (.string s) (.string s') = pure () := by simp only [eqGuard_at_string]
    cases op <;> simp only [reduceCtorEq] at hb
    case add =>
      split at hb
      · rename_i hle
        simp only [Option.some.injEq] at hb; subst hb
        exact ⟨by simp [hg, binOp, run_string_add_sum w s s' hle, pvV], rfl, rfl⟩
      · simp at hb
    all_goals
      simp only [Option.some.injEq] at hb; subst hb
      exact ⟨by simp [hg, binOp, Op.stringOp, pvV], rfl, rfl⟩

theorem gives_bin (h : Sim w0 M E σ a.tmps w) {op : BinOp} {x z : Opd} {t t' : TypeId} {y y' : Operand} (hop : o.op = .binOp op t y y' t') (ho : okOpd x y = true) (ho' : okOpd z y' = true) {r : Val} (hr : (FOp.bin op x z).ev σ = some r) : Gives P a o w w0 M σ E r := by
  simp only [FOp.ev] at hr
  split at hr
  · rename_i p q he1 he2
    simp only [Option.map_eq_some_iff] at hr
    obtain ⟨r', hb, rfl⟩ := hr
    have h1 := (ev1_sound h ho he1).2
    have h2 := (ev1_sound h ho' he2).2
    obtain ⟨g1, g2, g3⟩ := run_binPV (P := P) (w := w) (t := t) (x := y) (y := y') hb h1 h2
    refine ⟨pvV r', ?_, valOk_one ⟨g3, g2⟩, .inl rfl, rootsOk_p _⟩
    simp only [execOp, hop]
    rw [Sem.run_bind, g1]
    rfl
  · simp at hr

theorem gives_binB (h : Sim w0 M E σ a.tmps w) {neg : Bool} {op : BinOp} {x z : Opd} {t t' : TypeId} {y y' : Operand} (hop : o.op = .binOp op t y y' t') (hneg : op = if neg then .neq else .eql) (ho : okOpd x y = true) (ho' : okOpd z y' = true) (ht : P.underlying t = some .bool)
    {r : Val} (hr : (FOp.binB neg x z).ev σ = some r) : Gives P a o w w0 M σ E r := by
  simp only [FOp.ev] at hr
  split at hr
  · rename_i p q he1 he2
    simp only [Option.some.injEq] at hr; subst hr
    have h1 := (ev1_sound h ho he1).2
    have h2 := (ev1_sound h ho' he2).2
    simp only [cellVal, pvVal] at h1 h2
    refine ⟨.bool (if neg then !(p == q) else p == q), ?_, valOk_one (refVal_p rfl rfl), .inl rfl, rootsOk_p _⟩
    cases neg <;> subst hneg <;> simp [execOp, hop, h1, h2, eqGuard_at_bool, run_eql_bool w t p q ht, run_neq_bool w t p q ht]
  · simp at hr

theorem gives_un (h : Sim w0 M E σ a.tmps w) {op : UnOp} {x : Opd} {t : TypeId} {y : Operand} (hop : o.op = .unOp op t y) (ho : okOpd x y = true) {r : Val} (hr : (FOp.un op x).ev σ = some r) : Gives P a o w w0 M σ E r := by
  simp only [FOp.ev] at hr
  split at hr
  · rename_i p he
    simp only [Option.map_eq_some_iff] at hr
    obtain ⟨q, hq, rfl⟩ := hr
    have hv := (ev1_sound h ho he).2
    cases p <;> simp only [unPV, reduceCtorEq] at hq
    · cases op <;> simp only [reduceCtorEq, Option.some.injEq] at hq
      subst hq
      simp only [cellVal, pvVal] at hv
      exact ⟨_, by simp only [execOp, hop, hv, Op.unary]; rfl, valOk_one (refVal_p rfl rfl), .inl rfl, rootsOk_p _⟩
    · cases op <;> simp only [reduceCtorEq, Option.some.injEq] at hq
      subst hq
      simp only [cellVal, pvVal] at hv
      exact ⟨_, by simp only [execOp, hop, hv, Op.unary, Op.intArith]; rfl, valOk_one (refVal_p rfl rfl), .inl rfl, rootsOk_p _⟩
  · simp at hr

theorem gives_conv (h : Sim w0 M E σ a.tmps w) {k : IntKind} {x : Opd} {src dst : TypeId} {y : Operand} (hop : o.op = .convert src dst y) (ho : okOpd x y = true) (hd : P.underlying dst = some (.int k)) (hs : (P.underlying src).isSome = true) {r : Val} (hr : (FOp.conv k x).ev σ = some r) : Gives P a o w w0 M σ E r := by
  simp only [FOp.ev] at hr
  split at hr
  · rename_i k' n he
    simp only [Option.some.injEq] at hr; subst hr
    have hv := (ev1_sound h ho he).2
    simp only [cellVal, pvVal] at hv
    obtain ⟨d, hd'⟩ := Option.isSome_iff_exists.1 hs
    exact ⟨_, by simp [execOp, hop, hv, convert, run_underlying hd, run_underlying hd', Conv.intToInt], valOk_one (refVal_p rfl rfl), .inl rfl, rootsOk_p _⟩
  · simp at hr

theorem lnkOk_some {pl : Place} (h : lnkOk σ pl = true) : ∃ sz es, node σ pl = some (.sl sz false es) := by
  unfold lnkOk at h
  split at h
  · rename_i sz es he; exact ⟨sz, es, he⟩
  · simp at h

theorem gives_cmpNil (h : Sim w0 M E σ a.tmps w) {neg : Bool} {op : BinOp} {x : Opd} {t t' e : TypeId} {y : Operand} (hop : o.op = .binOp op t y (.const (.slice none 0 0)) t') (hneg : op = if neg then .neq else .eql) (ho : okOpd x y = true) (ht : P.underlying t = some (.slice e))
    {r : Val} (hr : (FOp.cmpNil neg x).ev σ = some r) : Gives P a o w w0 M σ E r := by
  have key : ∀ ad l c, a.eval y = .slice ad l c → (execOp a.eval o).run P w = .ok (.value (.bool (if neg then !ad.isNone else ad.isNone))) w := by
    intro ad l c hv
    have hc : a.eval (.const (.slice none 0 0)) = .slice none 0 0 := rfl
    cases neg <;> subst hneg <;> simp [execOp, hop, hv, hc, eqGuard_at_slice, binOp, run_equal_slice_nil w t e ad l c ht]
  simp only [FOp.ev] at hr
  split at hr
  · rename_i es sz he
    simp only [Option.some.injEq] at hr; subst hr
    have hv := (ev1_sound h ho he).2
    simp only [cellVal, pvVal] at hv
    refine ⟨_, key _ _ _ hv.1, valOk_one (refVal_p rfl ?_), .inl rfl, rootsOk_p _⟩
    cases neg <;> rfl
  · rename_i pl sz lo ln he
    split at hr
    · rename_i hn
      simp only [Option.some.injEq] at hr; subst hr
      obtain ⟨sz', es, hx⟩ := lnkOk_some hn
      obtain ⟨g1, g2, off, g3, g4⟩ := (ev1_sound h ho he).2 sz' es hx
      refine ⟨_, key _ _ _ g3, valOk_one (refVal_p rfl ?_), .inl rfl, rootsOk_p _⟩
      cases neg <;> rfl
    · simp at hr
  · rename_i es sz he
    simp only [Option.some.injEq] at hr; subst hr
    obtain ⟨α, hv⟩ := (ev1_sound h ho he).2
    have := hv.val
    simp only [pvVal] at this
    refine ⟨_, key _ _ _ this, valOk_one (refVal_p rfl ?_), .inl rfl, rootsOk_p _⟩
    cases neg <;> rfl
  · simp at hr

theorem gives_fieldAddr (h : Sim w0 M E σ a.tmps w) {x : Opd} {off f z : Nat} {t : TypeId} {y : Operand} {fs : Array Field} {fd : Field} (hop : o.op = .fieldAddr t y f) (ho : okOpd x y = true) (ht : P.underlying t = some (.struct fs)) (hf : fs[f]? = some fd) (hoff : fd.offset = off)
    (hz : pSize P fd.type = some z) (hz0 : z ≠ 0) {r : Val} (hr : (FOp.fieldAddr x off).ev σ = some r) : Gives P a o w w0 M σ E r := by
  have key : ∀ ad, a.eval y = .pointer (some ad) → (execOp a.eval o).run P w = .ok (.value (.pointer (some (ad.add off)))) w := by
    intro ad hv
    simp [execOp, hop, hv, Instr.fieldAt, run_underlying ht, hf, Instr.sureAddr, fieldPlace, run_sizeOf hz, hz0, hoff]
  simp only [FOp.ev] at hr
  split at hr
  · rename_i pl he
    split at hr
    · rename_i hc
      simp only [Option.some.injEq] at hr; subst hr
      have hv := ev1_sound h ho he
      have hp : a.eval y = .pointer (some (E.addr pl)) := hv.2 (cellAt_ptrOk hc)
      refine ⟨_, key _ hp, valOk_one ⟨rfl, fun _ => by rw [Env.addr_add]⟩, .inl rfl, rootsOk_one ?_⟩
      intro r hr
      simp only [Cell.root, Place.add_s] at hr
      exact ev1_root h he r hr
    · simp at hr
  · rename_i cs he
    simp only [Option.some.injEq] at hr; subst hr
    obtain ⟨b, of, hp, h2⟩ := (ev1_sound h ho he).2
    refine ⟨_, key _ hp, valOk_one ⟨rfl, b, of + off, by rw [Addr.add_lit], fun j x hj => ?_⟩, .inl rfl, rootsOk_one (by simp [Cell.root])⟩
    rw [List.getElem?_drop] at hj
    have := h2 _ x hj
    rw [← Nat.add_assoc] at this
    exact this
  · simp at hr

theorem node_chain {pl : Place} {i : Nat} {sz : Nat} {es : List (List PV)} (h : node σ pl = some (.sl sz false es)) (_hi : i < es.length) (k : Nat) : node σ ⟨pl.s, pl.c, (i, k) :: pl.q⟩ = (es[i]?).bind (·[k]?) := by
  obtain ⟨sl, y, h1, h2, h3⟩ := node_some h
  simp [node, h1, h2, PV.getR, h3]

theorem ptrOk_chain {pl : Place} {i k : Nat} (h : ptrOk σ ⟨pl.s, pl.c, (i, k) :: pl.q⟩) : ∃ sz nl es cs x, node σ pl = some (.sl sz nl es) ∧ es[i]? = some cs ∧ cs[k]? = some x := by
  simp only [ptrOk] at h
  obtain ⟨x, hx⟩ := Option.isSome_iff_exists.1 h
  obtain ⟨sl, y, h1, h2, h3⟩ := node_some hx
  obtain ⟨sz, nl, es, cs, h4, h5, h6⟩ := getR_node h3
  exact ⟨sz, nl, es, cs, x, by simp [node, h1, h2, h4], h5, h6⟩

theorem Sim.not_nil (h : Sim w0 M E σ a.tmps w) {pl : Place} {sz : Nat} {nl : Bool} {es : List (List PV)} (hn : node σ pl = some (.sl sz nl es)) {i : Nat} (hi : i < es.length) : nl = false := by
  cases nl with
  | false => rfl
  | true =>
    obtain ⟨sl, y, h1, h2, h3⟩ := node_some hn
    obtain ⟨v, h4⟩ := h.own _ _ _ _ h1 h2
    have := h4.nil_empty h3
    subst this
    simp at hi

theorem Sim.nodeOk (h : Sim w0 M E σ a.tmps w) {pl : Place} {sz : Nat} {es : List (List PV)} (hn : node σ pl = some (.sl sz false es)) : NodeOk w (E.at pl) sz es := by
  obtain ⟨sl, y, h1, h2, h3⟩ := node_some hn
  obtain ⟨v, h4⟩ := h.own _ _ _ _ h1 h2
  exact h4.node _ _ _ h3

theorem gives_idxAddr (h : Sim w0 M E σ a.tmps w) {x i : Opd} {sz : Nat} {t e : TypeId} {y y' : Operand} (hop : o.op = .indexAddr t y y') (ho : okOpd x y = true) (ho' : okOpd i y' = true) (ht : P.underlying t = some (.slice e)) (hs : pSize P e = some sz)
    {r : Val} (hr : (FOp.idxAddr x i sz).ev σ = some r) : Gives P a o w w0 M σ E r := by
  have key : ∀ ad ln cap k n, a.eval y = .slice (some ad) ln cap → a.eval y' = .int k n → 0 ≤ n → n < ln → (execOp a.eval o).run P w = .ok (.value (.pointer (some (ad.add (n.toNat * sz))))) w := by
    intro ad ln cap k n hv hi h0 h1
    simp [execOp, hop, hv, hi, Instr.indexAt, asIntOf, run_underlying ht, h0, h1, run_sizeOf hs]
  simp only [FOp.ev] at hr
  split at hr
  · rename_i pl z lo ln n he hi
    split at hr
    · rename_i hc
      obtain ⟨h0, h1, h2, hz⟩ := hc
      simp only [Option.some.injEq] at hr; subst hr
      obtain ⟨sz', es, hx⟩ := lnkOk_some h2
      obtain ⟨g1, g2, off, g3, g4⟩ := (ev1_sound h ho he).2 sz' es hx
      obtain ⟨k, hk⟩ := evInt_sound h ho' hi
      have hnode := h.nodeOk hx
      have hcap : es.length ≤ (E.at pl).cap := hnode.2.1
      have hne : (E.at pl).cap - lo ≠ 0 := by omega
      have hof := g4 (.inl hne)
      subst hz
      refine ⟨_, key _ _ _ _ _ g3 hk h0 h1, valOk_one ⟨rfl, fun _ => ?_⟩, .inl rfl, rootsOk_one ?_⟩
      · rw [Addr.add_lit]
        have e1 : (E.at pl).sz = z := hnode.1.trans g1
        simp only [Env.addr, Node.cell, Env.at] at hof e1 ⊢
        rw [hof, e1]
        simp only [Value.pointer.injEq, Option.some.injEq, Addr.mk.injEq, true_and, and_true]
        rw [Nat.add_mul]; omega
      · intro r hr
        simp only [Cell.root, Option.some.injEq] at hr
        exact ev1_root h he r (by simpa [Cell.root] using hr)
    · simp at hr
  · rename_i z es n he hi
    split at hr
    · rename_i h0
      obtain ⟨h0, hz⟩ := h0
      simp only [Option.map_eq_some_iff] at hr
      obtain ⟨cs, hcs, rfl⟩ := hr
      obtain ⟨α, hv⟩ := (ev1_sound h ho he).2
      obtain ⟨k, hk⟩ := evInt_sound h ho' hi
      have hval := hv.val
      simp only [pvVal] at hval
      have hlt : n.toNat < es.length := (List.getElem?_eq_some_iff.1 hcs).1
      subst hz
      obtain ⟨n1, n2, n3⟩ := hv.node [] z es rfl
      refine ⟨_, key _ _ _ _ _ hval hk h0 (by omega), valOk_one ⟨rfl, (α []).blk, (α []).off + n.toNat * z, by simp [Node.base, Addr.add_lit], fun j x hj => ?_⟩, .inl rfl, rootsOk_one (by simp [Cell.root])⟩
      have hp : (PV.sl z false es).getR [(n.toNat, j)] = some x := by simp [PV.getR, hcs, hj]
      obtain ⟨u, f1, f2, f3⟩ := hv.cell [] n.toNat j x hp
      simp only [Node.cell, n1] at f1 f2
      exact ⟨u, _, f1, f2, hv.sub hp f3⟩
    · simp at hr
  · simp at hr

theorem gives_index (h : Sim w0 M E σ a.tmps w) {x i : Opd} {t : TypeId} {y y' : Operand} (hop : o.op = .index t y y') (ho : okOpd x y = true) (ho' : okOpd i y' = true) (ht : P.underlying t = some .string) {r : Val} (hr : (FOp.index x i).ev σ = some r) : Gives P a o w w0 M σ E r := by
  simp only [FOp.ev] at hr
  split at hr
  · rename_i s n he hi
    split at hr
    · rename_i h0
      simp only [Option.map_eq_some_iff] at hr
      obtain ⟨b, hb, rfl⟩ := hr
      have hv := (ev1_sound h ho he).2
      simp only [cellVal, pvVal] at hv
      obtain ⟨k, hk⟩ := evInt_sound h ho' hi
      exact ⟨.int .u8 b.toNat, by simp [execOp, hop, hv, hk, Instr.index, asIntOf, run_underlying ht, h0, hb], valOk_one (refVal_p rfl rfl), .inl rfl, rootsOk_p _⟩
    · simp at hr
  · simp at hr

theorem gives_lenS (h : Sim w0 M E σ a.tmps w) {x : Opd} {t : TypeId} {y : Operand} (hop : o.op = .call ⟨.builtin .len, #[y], #[t]⟩) (ho : okOpd x y = true) (ht : P.underlying t = some .string) {r : Val} (hr : (FOp.lenS x).ev σ = some r) : Gives P a o w w0 M σ E r := by
  simp only [FOp.ev] at hr
  split at hr
  · rename_i s he
    simp only [Option.some.injEq] at hr; subst hr
    have hv := (ev1_sound h ho he).2
    simp only [cellVal, pvVal] at hv
    exact ⟨.int .i64 s.size, by simp [execOp, hop, hv, resolve, invoke, builtin, Builtin.len_, run_underlying ht, goInt], valOk_one (refVal_p rfl rfl), .inl rfl, rootsOk_p _⟩
  · simp at hr

theorem gives_len (h : Sim w0 M E σ a.tmps w) {x : Opd} {t e : TypeId} {y : Operand} (hop : o.op = .call ⟨.builtin .len, #[y], #[t]⟩) (ho : okOpd x y = true) (ht : P.underlying t = some (.slice e)) {r : Val} (hr : (FOp.len x).ev σ = some r) : Gives P a o w w0 M σ E r := by
  have key : ∀ ad l c, a.eval y = .slice ad l c → (execOp a.eval o).run P w = .ok (.value (.int .i64 l)) w := by
    intro ad l c hv
    simp [execOp, hop, hv, resolve, invoke, builtin, Builtin.len_, run_underlying ht, goInt]
  simp only [FOp.ev] at hr
  split at hr
  · rename_i z es he
    simp only [Option.some.injEq] at hr; subst hr
    have hv := (ev1_sound h ho he).2
    simp only [cellVal, pvVal] at hv
    exact ⟨_, key _ _ _ hv.1, valOk_one (refVal_p rfl rfl), .inl rfl, rootsOk_p _⟩
  · rename_i z es he
    simp only [Option.some.injEq] at hr; subst hr
    obtain ⟨α, hv⟩ := (ev1_sound h ho he).2
    exact ⟨_, key _ _ _ hv.val, valOk_one (refVal_p rfl rfl), .inl rfl, rootsOk_p _⟩
  · rename_i pl z lo ln he
    split at hr
    · rename_i hn
      simp only [Option.some.injEq] at hr; subst hr
      obtain ⟨sz', es, hx'⟩ := lnkOk_some hn
      obtain ⟨g1, g2, off, g3, g4⟩ := (ev1_sound h ho he).2 sz' es hx'
      exact ⟨_, key _ _ _ g3, valOk_one (refVal_p rfl rfl), .inl rfl, rootsOk_p _⟩
    · simp at hr
  · simp at hr

/-- A bound, run. -/
theorem evBound_sound (h : Sim w0 M E σ a.tmps w) {x : Option Opd} {y : Option Operand} (ho : okOpdO x y = true) {d lim n : Nat} (hx : evBound σ x d lim = some n) (code : BoundsCode) :
    (x = none ∧ y = none ∧ n = d) ∨ (∃ z v, y = some z ∧ v = a.eval z ∧ (Instr.sliceBound v lim code).run P w = .ok n w ∧ n ≤ lim) := by
  cases x with
  | none =>
    cases y with
    | none => simp only [evBound, Option.some.injEq] at hx; exact .inl ⟨rfl, rfl, hx.symm⟩
    | some z => simp [okOpdO] at ho
  | some x =>
    cases y with
    | none => simp [okOpdO] at ho
    | some z =>
      simp only [okOpdO] at ho
      simp only [evBound] at hx
      split at hx
      · rename_i m hm
        obtain ⟨k, hk⟩ := evInt_sound h ho hm
        split at hx
        · rename_i hb
          simp only [Option.some.injEq] at hx
          refine .inr ⟨z, _, rfl, rfl, ?_, by omega⟩
          simp [Instr.sliceBound, hk, asIntOf, hb, hx]
        · simp at hx
      · simp at hx

theorem run_bounds (h : Sim w0 M E σ a.tmps w) {lo hi : Option Opd} {l' h' : Option Operand} (hlo : okOpdO lo l' = true) (hhi : okOpdO hi h' = true) {isS : Bool} {ln lim cap n m : Nat} (hln : ln ≤ lim) (hcap : lim ≤ cap) (hm : evBound σ hi ln lim = some m) (hn : evBound σ lo 0 m = some n) :
    (Instr.sliceBounds isS ln cap (l'.map a.eval) (h'.map a.eval) none).run P w = .ok (n, m, cap) w ∧ n ≤ m ∧ m ≤ lim := by
  have e1 : (match h'.map a.eval, (none : Option Value) with
      | some v, some _ => Instr.sliceBound v cap .slice3B
      | some v, none => Instr.sliceBound v cap (if isS then .sliceAcap else .sliceAlen)
      | none, none => pure ln
      | none, some _ => stuck "Slice: max without high" : Sem Nat).run P w = .ok m w ∧ m ≤ lim := by
    have hx := hm
    cases hi with
    | none =>
      cases h' with
      | some z => simp [okOpdO] at hhi
      | none =>
        simp only [evBound, Option.some.injEq] at hx
        subst hx
        exact ⟨rfl, hln⟩
    | some x =>
      cases h' with
      | none => simp [okOpdO] at hhi
      | some z =>
        simp only [okOpdO] at hhi
        simp only [evBound] at hx
        split at hx
        · rename_i p hp
          obtain ⟨k, hk⟩ := evInt_sound h hhi hp
          split at hx
          · rename_i hb
            simp only [Option.some.injEq] at hx
            have hb' : 0 ≤ p ∧ p ≤ (cap : Int) := by omega
            refine ⟨?_, by omega⟩
            simp [Instr.sliceBound, hk, asIntOf, hb', hx]
          · simp at hx
        · simp at hx
  have e2 : (match l'.map a.eval with
      | some v => Instr.sliceBound v m .sliceB
      | none => pure 0 : Sem Nat).run P w = .ok n w ∧ n ≤ m := by
    rcases evBound_sound (P := P) h hlo hn .sliceB with ⟨rfl, rfl, rfl⟩ | ⟨z, v, rfl, rfl, g1, g2⟩
    · exact ⟨rfl, Nat.zero_le _⟩
    · exact ⟨g1, g2⟩
  obtain ⟨e1, e1'⟩ := e1
  obtain ⟨e2, e2'⟩ := e2
  refine ⟨?_, e2', e1'⟩
  cases h' <;> cases l' <;> simp only [Option.map_none, Option.map_some, Sem.run_pure, Result.ok.injEq, and_true] at e1 e2 <;> simp [Instr.sliceBounds, e1, e2]

theorem gives_sliceS (h : Sim w0 M E σ a.tmps w) {x : Opd} {lo hi : Option Opd} {t : TypeId} {y : Operand} {l' h' : Option Operand} (hop : o.op = .slice t y l' h' none) (ho : okOpd x y = true) (hlo : okOpdO lo l' = true) (hhi : okOpdO hi h' = true) (ht : P.underlying t = some .string)
    {r : Val} (hr : (FOp.sliceS x lo hi).ev σ = some r) : Gives P a o w w0 M σ E r := by
  simp only [FOp.ev] at hr
  split at hr
  · rename_i s he
    split at hr
    · rename_i m hm
      simp only [Option.map_eq_some_iff] at hr
      obtain ⟨n, hn, rfl⟩ := hr
      have hv := (ev1_sound h ho he).2
      simp only [cellVal, pvVal] at hv
      obtain ⟨g1, g2, g3⟩ := run_bounds (P := P) (isS := false) h hlo hhi (Nat.le_refl _) (Nat.le_refl _) hm hn
      exact ⟨.string (s.extract n m), by simp [execOp, hop, hv, Instr.sliceAt, Instr.slice, run_underlying ht, g1], valOk_one (refVal_p rfl rfl), .inl rfl, rootsOk_p _⟩
    · simp at hr
  · simp at hr

theorem gives_sliceL (h : Sim w0 M E σ a.tmps w) {x : Opd} {lo hi : Option Opd} {sz : Nat} {t e : TypeId} {y : Operand} {l' h' : Option Operand} (hop : o.op = .slice t y l' h' none) (ho : okOpd x y = true) (hlo : okOpdO lo l' = true) (hhi : okOpdO hi h' = true) (ht : P.underlying t = some (.slice e)) (hs : pSize P e = some sz)
    {r : Val} (hr : (FOp.sliceL x lo hi sz).ev σ = some r) : Gives P a o w w0 M σ E r := by
  have key : ∀ ad ln cap n m, a.eval y = .slice ad ln cap → (Instr.sliceBounds true ln cap (l'.map a.eval) (h'.map a.eval) none).run P w = .ok (n, m, cap) w →
      (execOp a.eval o).run P w = .ok (.value (.slice (if cap = n then ad else ad.map (·.add (n * sz))) (m - n) (cap - n))) w := by
    intro ad ln cap n m hv hb
    simp [execOp, hop, hv, Instr.sliceAt, Instr.slice, run_underlying ht, hb, run_sizeOf hs]
  simp only [FOp.ev] at hr
  split at hr
  · rename_i pl z lo0 ln he
    split at hr
    · rename_i hc
      obtain ⟨hc, rfl⟩ := hc
      split at hr
      · rename_i m hm
        simp only [Option.map_eq_some_iff] at hr
        obtain ⟨n, hn, rfl⟩ := hr
        obtain ⟨sz', es, hx⟩ := lnkOk_some hc
        obtain ⟨g1, g2, off, g3, g4⟩ := (ev1_sound h ho he).2 sz' es hx
        have hnode := h.nodeOk hx
        have hcap : es.length ≤ (E.at pl).cap := hnode.2.1
        obtain ⟨b1, b2, b3⟩ := run_bounds (P := P) (isS := true) h hlo hhi (Nat.le_refl _) (show ln ≤ (E.at pl).cap - lo0 by omega) hm hn
        refine ⟨_, key _ _ _ _ _ g3 b1, valOk_one ⟨rfl, fun sz2 es2 he2 => ?_⟩, .inl rfl, rootsOk_one ?_⟩
        · rw [hx] at he2
          simp only [Option.some.injEq, PV.sl.injEq, true_and] at he2
          obtain ⟨rfl, rfl⟩ := he2
          refine ⟨g1, by omega, ?_⟩
          by_cases hz : (E.at pl).cap - lo0 = n
          · rw [if_pos hz]
            exact ⟨off, by simp; omega, fun hne => by
              have hl0 : lo0 = 0 ∧ n = 0 := by omega
              obtain ⟨rfl, rfl⟩ := hl0
              have := g4 (.inr rfl)
              simpa using this⟩
          · rw [if_neg hz]
            refine ⟨off + n * z, by simp [Addr.add_lit]; omega, fun hne => ?_⟩
            rw [g4 (by omega), Nat.add_mul]; omega
        · intro r hr
          exact ev1_root h he r (by simpa [Cell.root] using hr)
      · simp at hr
    · simp at hr
  · rename_i z es he
    split at hr
    · rename_i m hm
      simp only [Option.map_eq_some_iff] at hr
      obtain ⟨n, hn, rfl⟩ := hr
      have hv := (ev1_sound h ho he).2
      simp only [cellVal, pvVal] at hv
      obtain ⟨b1, b2, b3⟩ := run_bounds (P := P) (isS := true) h hlo hhi (Nat.le_refl 0) (Nat.le_refl 0) hm hn
      have hm0 : m = 0 := by omega
      have hn0 : n = 0 := by omega
      subst hm0; subst hn0
      refine ⟨_, key _ _ _ _ _ hv.1 b1, valOk_one (refVal_p rfl ⟨by simp, hv.2⟩), .inl rfl, rootsOk_p _⟩
    · simp at hr
  · simp at hr

/-- All of them. -/
theorem FOp.sound (h : Sim w0 M E σ a.tmps w) {f : FOp} (hok : f.ok P o.op = true) {r : Val} (hr : f.ev σ = some r) : Gives P a o w w0 M σ E r := by
  unfold FOp.ok at hok
  split at hok
  case h_1 =>
    split at hok
    · rename_i e; exact gives_mov h (.inl e) hok hr
    · rename_i e; exact gives_mov h (.inr e) hok hr
    · simp at hok
  case h_2 =>
    split at hok
    · rename_i e; simp only [Bool.and_eq_true] at hok; exact gives_pick h e hok.1.1 hok.1.2 hok.2 hr
    · simp at hok
  case h_3 =>
    split at hok
    · rename_i e; simp only [Bool.and_eq_true, beq_iff_eq] at hok; exact gives_load1 h e hok.1 hok.2 hr
    · simp at hok
  case h_4 =>
    split at hok
    · rename_i e; simp only [Bool.and_eq_true, beq_iff_eq, bne_iff_ne] at hok; exact gives_loadN h e hok.1.1.1 hok.1.1.2 hok.1.2 hok.2 hr
    · simp at hok
  case h_5 =>
    split at hok
    · rename_i e; exact gives_nilCheck h e hok hr
    · simp at hok
  case h_6 =>
    split at hok
    · rename_i e
      simp only [Bool.and_eq_true, beq_iff_eq] at hok
      obtain ⟨⟨h1, h2⟩, h3⟩ := hok
      subst h1
      exact gives_bin h e h2 h3 hr
    · simp at hok
  case h_7 =>
    split at hok
    · rename_i e
      simp only [Bool.and_eq_true, beq_iff_eq] at hok
      obtain ⟨⟨⟨h1, h2⟩, h3⟩, h4⟩ := hok
      split at h4
      · rename_i hu; exact gives_binB h e h1 h2 h3 hu hr
      · simp at h4
    · simp at hok
  case h_8 =>
    split at hok
    · rename_i e
      simp only [Bool.and_eq_true, beq_iff_eq] at hok
      obtain ⟨⟨h1, h2⟩, h4⟩ := hok
      split at h4
      · rename_i hu; exact gives_cmpNil h e h2 h1 hu hr
      · simp at h4
    · simp at hok
  case h_9 =>
    split at hok
    · rename_i e
      simp only [Bool.and_eq_true, beq_iff_eq] at hok
      obtain ⟨h1, h2⟩ := hok
      subst h1
      exact gives_un h e h2 hr
    · simp at hok
  case h_10 =>
    split at hok
    · rename_i e
      simp only [Bool.and_eq_true] at hok
      obtain ⟨⟨h1, h2⟩, h3⟩ := hok
      split at h2
      · rename_i k' hu
        simp only [beq_iff_eq] at h2
        subst h2
        exact gives_conv h e h1 hu h3 hr
      · simp at h2
    · simp at hok
  case h_11 =>
    split at hok
    · rename_i e
      simp only [Bool.and_eq_true] at hok
      obtain ⟨h1, h2⟩ := hok
      split at h2
      · rename_i fs hu
        split at h2
        · rename_i fd hf
          simp only [Bool.and_eq_true, beq_iff_eq] at h2
          obtain ⟨h3, h4⟩ := h2
          split at h4
          · rename_i z hz
            simp only [bne_iff_ne] at h4
            exact gives_fieldAddr h e h1 hu hf h3 hz h4 hr
          · simp at h4
        · simp at h2
      · simp at h2
    · simp at hok
  case h_12 =>
    split at hok
    · rename_i e
      simp only [Bool.and_eq_true] at hok
      obtain ⟨⟨h1, h2⟩, h3⟩ := hok
      split at h3
      · rename_i e2 hu
        simp only [beq_iff_eq] at h3
        exact gives_idxAddr h e h1 h2 hu h3 hr
      · simp at h3
    · simp at hok
  case h_13 =>
    split at hok
    · rename_i e
      simp only [Bool.and_eq_true] at hok
      obtain ⟨⟨h1, h2⟩, h3⟩ := hok
      split at h3
      · rename_i hu; exact gives_index h e h1 h2 hu hr
      · simp at h3
    · simp at hok
  case h_14 =>
    split at hok
    · rename_i e
      simp only [Bool.and_eq_true] at hok
      obtain ⟨h1, h3⟩ := hok
      split at h3
      · rename_i hu; exact gives_lenS h (isBuiltin_some e) h1 hu hr
      · simp at h3
    · simp at hok
  case h_15 =>
    split at hok
    · rename_i e
      simp only [Bool.and_eq_true] at hok
      obtain ⟨h1, h3⟩ := hok
      split at h3
      · rename_i e2 hu; exact gives_len h (isBuiltin_some e) h1 hu hr
      · simp at h3
    · simp at hok
  case h_16 =>
    split at hok
    · rename_i e
      simp only [Bool.and_eq_true] at hok
      obtain ⟨⟨⟨h1, h2⟩, h3⟩, h4⟩ := hok
      split at h4
      · rename_i hu; exact gives_sliceS h e h1 h2 h3 hu hr
      · simp at h4
    · simp at hok
  case h_17 =>
    split at hok
    · rename_i e
      simp only [Bool.and_eq_true] at hok
      obtain ⟨⟨⟨h1, h2⟩, h3⟩, h4⟩ := hok
      split at h4
      · rename_i e2 hu
        simp only [beq_iff_eq] at h4
        exact gives_sliceL h e h1 h2 h3 hu h4 hr
      · simp at h4
    · simp at hok

end
end Go.Tq
/- Moving what is owned; writing cells. -/
namespace Go.Tq
open Go.RowKit

/-! ### Some references end -/

/-- A way to end references: each cell stays, or a reference becomes dead. -/
def Cuts (f : Cell → Cell) : Prop := ∀ c, f c = c ∨ f c = .dead ∧ ∃ r, c.root = some r

def mapC (f : Cell → Cell) (σ : State) : State := σ.map fun e => (e.1, ⟨e.2.sh, e.2.cs.map f, e.2.hc⟩)

theorem get_mapC (f : Cell → Cell) (σ : State) (s : Nat) : get (mapC f σ) s = (get σ s).map fun sl => ⟨sl.sh, sl.cs.map f, sl.hc⟩ := by
  induction σ with
  | nil => rfl
  | cons a t ih =>
    obtain ⟨k, u⟩ := a
    simp only [mapC, List.map_cons, get] at ih ⊢
    split
    · rfl
    · exact ih

theorem Cuts.p {f : Cell → Cell} (hf : Cuts f) {c : Cell} {x : PV} : f c = .p x ↔ c = .p x := by
  constructor
  · intro h
    rcases hf c with h1 | ⟨h1, -⟩
    · rw [← h1]; exact h
    · rw [h1] at h; simp at h
  · rintro rfl
    rcases hf (.p x) with h1 | ⟨-, r, h1⟩
    · exact h1
    · simp [Cell.root] at h1

theorem node_mapC {f : Cell → Cell} (hf : Cuts f) (σ : State) (pl : Place) : node (mapC f σ) pl = node σ pl := by
  simp only [node, get_mapC]
  cases get σ pl.s with
  | none => rfl
  | some sl =>
    simp only [Option.map_some, Option.bind_some, List.getElem?_map]
    cases h : sl.cs[pl.c]? with
    | none => rfl
    | some c =>
      simp only [Option.map_some]
      rcases hf c with h1 | ⟨h1, r, h2⟩
      · rw [h1]
      · rw [h1]
        cases c <;> simp [Cell.root] at h2 <;> rfl

theorem ptrOk_mapC {f : Cell → Cell} (hf : Cuts f) (σ : State) (pl : Place) : ptrOk (mapC f σ) pl ↔ ptrOk σ pl := by
  unfold ptrOk
  cases pl.q with
  | nil =>
    simp only [get_mapC]
    constructor
    · rintro ⟨sl, h1, h2, h3⟩
      simp only [Option.map_eq_some_iff] at h1
      obtain ⟨s0, h4, rfl⟩ := h1
      exact ⟨s0, h4, h2, by simpa using h3⟩
    · rintro ⟨sl, h1, h2, h3⟩
      exact ⟨⟨sl.sh, sl.cs.map f, sl.hc⟩, by rw [h1]; rfl, h2, by simpa using h3⟩
  | cons a q => simp only [node_mapC hf]

theorem fpOf_mapC {f : Cell → Cell} (hf : Cuts f) (E : Env) (σ : State) (id : Nat × Option Nat) (a : Addr) : fpOf E (mapC f σ) id a ↔ fpOf E σ id a := by
  obtain ⟨s, j⟩ := id
  cases j with
  | none =>
    simp only [fpOf, get_mapC]
    constructor
    · rintro ⟨sl, h1, h2⟩
      simp only [Option.map_eq_some_iff] at h1
      obtain ⟨s0, h4, rfl⟩ := h1
      exact ⟨s0, h4, by simpa using h2⟩
    · rintro ⟨sl, h1, h2⟩
      exact ⟨_, by rw [h1]; rfl, by simpa using h2⟩
  | some j =>
    simp only [fpOf, get_mapC]
    constructor
    · rintro ⟨sl, x, h1, h2, h3⟩
      simp only [Option.map_eq_some_iff] at h1
      obtain ⟨s0, h4, rfl⟩ := h1
      simp only [List.getElem?_map, Option.map_eq_some_iff] at h2
      obtain ⟨c, h5, h6⟩ := h2
      exact ⟨s0, x, h4, by rw [h5, hf.p.1 h6], h3⟩
    · rintro ⟨sl, x, h1, h2, h3⟩
      exact ⟨_, x, by rw [h1]; rfl, by simp [h2, hf.p.2], h3⟩

theorem Sim.mapC {w0 w : World} {M : MN} {E : Env} {σ : State} {ts : Array Value} (h : Sim w0 M E σ ts w) {f : Cell → Cell} (hf : Cuts f) : Sim w0 M E (mapC f σ) ts w := by
  have hcell : ∀ s j c v, cellVal w0 M σ E s j c v → cellVal w0 M (Go.Tq.mapC f σ) E s j (f c) v := by
    intro s j c v hc
    rcases hf c with h1 | ⟨h1, -⟩
    · rw [h1]
      refine cellVal_mono hc (fun _ _ => rfl) (fun pl sz lo len _ sz' es he => ?_) (fun pl _ hk => ?_)
      · rw [node_mapC hf] at he
        exact ⟨es, he, Nat.le_refl _, rfl⟩
      · exact ⟨(ptrOk_mapC hf σ pl).1 hk, rfl⟩
    · rw [h1]; trivial
  refine ⟨?_, ?_, ?_, ?_, ?_, h.frame, h.fresh, h.apart⟩
  · intro s sl hs
    simp only [get_mapC, Option.map_eq_some_iff] at hs
    obtain ⟨s0, hs0, rfl⟩ := hs
    obtain ⟨h1, h2⟩ := h.slots s s0 hs0
    refine ⟨h1, ?_⟩
    unfold slotVal at h2 ⊢
    cases hsh : s0.sh with
    | one =>
      simp only [hsh] at h2 ⊢
      obtain ⟨c, h3, h4⟩ := h2
      exact ⟨f c, by simp [h3], hcell _ _ _ _ h4⟩
    | agg =>
      simp only [hsh] at h2 ⊢
      obtain ⟨arr, h3, h4, h5⟩ := h2
      refine ⟨arr, h3, by simpa using h4, fun j c hj => ?_⟩
      simp only [List.getElem?_map, Option.map_eq_some_iff] at hj
      obtain ⟨c0, h6, rfl⟩ := hj
      obtain ⟨u, h7, h8⟩ := h5 j c0 h6
      exact ⟨u, h7, hcell _ _ _ _ h8⟩
    | box =>
      simp only [hsh] at h2 ⊢
      obtain ⟨h3, h4⟩ := h2
      refine ⟨h3, fun j c hj => ?_⟩
      simp only [List.getElem?_map, Option.map_eq_some_iff] at hj
      obtain ⟨c0, h6, rfl⟩ := hj
      obtain ⟨⟨u, h7, h8⟩, h9⟩ := h4 j c0 h6
      exact ⟨⟨u, h7, hcell _ _ _ _ h8⟩, h9⟩
    | tup l =>
      simp only [hsh] at h2 ⊢
      obtain ⟨arr, h3, h4, h5⟩ := h2
      refine ⟨arr, h3, h4, fun j o z hj => ?_⟩
      obtain ⟨u, h6, h7⟩ := h5 j o z hj
      refine ⟨u, h6, ?_⟩
      cases z with
      | none =>
        obtain ⟨c, h8, h9⟩ := h7
        exact ⟨f c, by simp [h8], hcell _ _ _ _ h9⟩
      | some n =>
        obtain ⟨a2, h8, h9, h10⟩ := h7
        refine ⟨a2, h8, h9, fun k hk => ?_⟩
        obtain ⟨u2, c, h11, h12, h13⟩ := h10 k hk
        exact ⟨u2, f c, h11, by simp [h12], hcell _ _ _ _ h13⟩
    | gone => trivial
  · intro s sl j x hs hj
    simp only [get_mapC, Option.map_eq_some_iff] at hs
    obtain ⟨s0, hs0, rfl⟩ := hs
    simp only [List.getElem?_map, Option.map_eq_some_iff] at hj
    obtain ⟨c, h5, h6⟩ := hj
    exact h.own s s0 j x hs0 (by rw [h5, hf.p.1 h6])
  · intro id id' a hne h1 h2
    exact h.disj id id' a hne ((fpOf_mapC hf E σ id a).1 h1) ((fpOf_mapC hf E σ id' a).1 h2)
  · intro id a h1
    exact h.mine id a ((fpOf_mapC hf E σ id a).1 h1)
  · intro s sl j c r hs hj hc
    simp only [get_mapC, Option.map_eq_some_iff] at hs
    obtain ⟨s0, hs0, rfl⟩ := hs
    simp only [List.getElem?_map, Option.map_eq_some_iff] at hj
    obtain ⟨c0, h5, h6⟩ := hj
    rw [get_mapC]
    rcases hf c0 with h7 | ⟨h7, -⟩
    · rw [h7] at h6
      subst h6
      simpa using h.refs s s0 j c0 r hs0 h5 hc
    · rw [h7] at h6
      subst h6
      simp [Cell.root] at hc

/-! ### A slot's cells are turned, its shape stays -/

def Slot.setC (sl : Slot) (j : Nat) (c : Cell) : Slot := ⟨sl.sh, sl.cs.set j c, sl.hc⟩

/-- One value of a slot's cells: where it is read. -/
def cellIn (E : Env) (w : World) (s : Nat) (sl : Slot) (v : Value) (j : Nat) (u : Value) : Prop := match sl.sh with
  | .one => v = u
  | .agg => ∃ arr, v = .agg arr ∧ arr[j]? = some u
  | .box => w.cell? (E.bcell s j) = some u
  | .tup l => ∃ arr, v = .tuple arr ∧ (∃ (i : Nat) (o : Nat) (z : Option Nat), l[i]? = some (o, z) ∧ match z with
    | none => j = o ∧ arr[i]? = some u
    | some n => ∃ (k : Nat) (a2 : Array Value), k < n ∧ j = o + k ∧ arr[i]? = some (Value.agg a2) ∧ a2[k]? = some u)
  | .gone => False

/-- The slot's value, for a slot one cell of which is turned; the world may have turned that cell of a box. -/
theorem slotVal_setC {w0 w w' : World} {M : MN} {σ σ' : State} {E E' : Env} {s : Nat} {sl : Slot} {v : Value} {j : Nat} {c' : Cell} (h : slotVal w0 M σ E w s sl v)
    (hB : E'.B s = E.B s)
    (hw : sl.sh = .box → ∀ (i : Nat) c, i ≠ j → sl.cs[i]? = some c → ∀ u, w.cell? (E.bcell s i) = some u → w'.cell? (E.bcell s i) = some u)
    (hfz : sl.sh = .box → ∀ (i : Nat) c, sl.cs[i]? = some c → w.frozen? (E.bcell s i) = false → w'.frozen? (E.bcell s i) = false)
    (hc : ∀ (i : Nat) c u, i ≠ j → sl.cs[i]? = some c → cellVal w0 M σ E s i c u → cellVal w0 M σ' E' s i c u)
    (hj : ∀ u, cellIn E w' s sl v j u → cellVal w0 M σ' E' s j c' u)
    (hjb : sl.sh = .box → j < sl.cs.length → ∃ u, w'.cell? (E.bcell s j) = some u) : slotVal w0 M σ' E' w' s (sl.setC j c') v := by
  unfold slotVal at h ⊢
  unfold cellIn at hj
  simp only [Slot.setC]
  cases hsh : sl.sh with
  | one =>
    simp only [hsh] at h hj ⊢
    obtain ⟨c, h1, h2⟩ := h
    rw [h1]
    cases j with
    | zero => exact ⟨c', rfl, hj v rfl⟩
    | succ j => exact ⟨c, rfl, hc 0 c v (by omega) (by rw [h1]; rfl) h2⟩
  | agg =>
    simp only [hsh] at h hj ⊢
    obtain ⟨arr, h1, h2, h3⟩ := h
    refine ⟨arr, h1, by simpa using h2, fun i c hi => ?_⟩
    rw [List.getElem?_set] at hi
    split at hi
    · rename_i e
      subst e
      split at hi
      · rename_i hlt
        simp only [Option.some.injEq] at hi
        subst hi
        obtain ⟨u, h4, -⟩ := h3 j _ (List.getElem?_eq_getElem hlt)
        exact ⟨u, h4, hj u ⟨arr, h1, h4⟩⟩
      · simp at hi
    · rename_i e
      obtain ⟨u, h4, h5⟩ := h3 i c hi
      exact ⟨u, h4, hc i c u (fun e' => e e'.symm) hi h5⟩
  | box =>
    simp only [hsh] at h hj ⊢
    obtain ⟨h1, h2⟩ := h
    have hb : ∀ i, E'.bcell s i = E.bcell s i := fun i => by simp [Env.bcell, hB]
    refine ⟨by rw [hb]; exact h1, fun i c hi => ?_⟩
    rw [hb]
    rw [List.getElem?_set] at hi
    split at hi
    · rename_i e
      subst e
      split at hi
      · rename_i hlt
        simp only [Option.some.injEq] at hi
        subst hi
        obtain ⟨u, hu⟩ := hjb hsh hlt
        obtain ⟨-, hz⟩ := h2 j _ (List.getElem?_eq_getElem hlt)
        exact ⟨⟨u, hu, hj u hu⟩, hfz hsh j _ (List.getElem?_eq_getElem hlt) hz⟩
      · simp at hi
    · rename_i e
      obtain ⟨⟨u, h3, h4⟩, h5⟩ := h2 i c hi
      exact ⟨⟨u, hw hsh i c (fun e' => e e'.symm) hi u h3, hc i c u (fun e' => e e'.symm) hi h4⟩, hfz hsh i c hi h5⟩
  | tup l =>
    simp only [hsh] at h hj ⊢
    obtain ⟨arr, h1, h2, h3⟩ := h
    refine ⟨arr, h1, h2, fun i o z hi => ?_⟩
    obtain ⟨u, h4, h5⟩ := h3 i o z hi
    refine ⟨u, h4, ?_⟩
    cases z with
    | none =>
      obtain ⟨c, h6, h7⟩ := h5
      by_cases e : j = o
      · subst e
        refine ⟨c', ?_, hj u ⟨arr, h1, i, j, none, hi, rfl, h4⟩⟩
        rw [List.getElem?_set_self (List.getElem?_eq_some_iff.1 h6).1]
      · exact ⟨c, by rw [List.getElem?_set_ne e]; exact h6, hc o c u (fun e' => e e'.symm) h6 h7⟩
    | some n =>
      obtain ⟨a2, h6, h7, h8⟩ := h5
      refine ⟨a2, h6, h7, fun k hk => ?_⟩
      obtain ⟨u2, c, h9, h10, h11⟩ := h8 k hk
      by_cases e : j = o + k
      · subst e
        refine ⟨u2, c', h9, ?_, hj u2 ⟨arr, h1, i, o, some n, hi, k, a2, hk, rfl, by rw [h4, h6], h9⟩⟩
        rw [List.getElem?_set_self (List.getElem?_eq_some_iff.1 h10).1]
      · exact ⟨u2, c, h9, by rw [List.getElem?_set_ne e]; exact h10, hc _ c u2 (fun e' => e e'.symm) h10 h11⟩
  | gone => trivial

theorem get_setC {sl : Slot} {j : Nat} {c : Cell} (i : Nat) (hj : j < sl.cs.length) : ((sl.setC j c).cs)[i]? = if j = i then some c else sl.cs[i]? := by
  simp only [Slot.setC, List.getElem?_set]
  split
  · simp
  · rfl

theorem node_setC {σ : State} {s : Nat} {sl : Slot} {j : Nat} {c : Cell} (hs : get σ s = some sl) (hj : j < sl.cs.length) (pl : Place) : node (put σ s (sl.setC j c)) pl =
    if pl.s = s ∧ pl.c = j then (match c with | .p x => x.getR pl.q | _ => none) else node σ pl := by
  by_cases e1 : pl.s = s
  · by_cases e2 : pl.c = j
    · rw [if_pos ⟨e1, e2⟩]
      simp only [node, e1, get_put_same, Option.bind_some, e2]
      rw [get_setC _ hj, if_pos rfl]
      cases c <;> rfl
    · rw [if_neg (fun h => e2 h.2)]
      simp only [node, e1, get_put_same, Option.bind_some, hs]
      rw [get_setC _ hj, if_neg (fun e => e2 e.symm)]
  · rw [if_neg (fun h => e1 h.1)]
    exact node_put_ne σ _ (fun e => e1 e.symm)

theorem ptrOk_setC_box {σ : State} {s : Nat} {sl : Slot} {j : Nat} {c : Cell} (hs : get σ s = some sl) {pl : Place} (hq : pl.q = []) : ptrOk (put σ s (sl.setC j c)) pl ↔ ptrOk σ pl := by
  unfold ptrOk
  simp only [hq]
  by_cases e : s = pl.s
  · subst e
    simp only [get_put_same, hs]
    constructor
    · rintro ⟨x, h1, h2, h3⟩
      simp only [Option.some.injEq] at h1
      subst h1
      exact ⟨sl, rfl, h2, by simpa [Slot.setC] using h3⟩
    · rintro ⟨x, h1, h2, h3⟩
      simp only [Option.some.injEq] at h1
      subst h1
      exact ⟨_, rfl, h2, by simpa [Slot.setC] using h3⟩
  · simp [get_put_ne σ _ e]

theorem set_same (ts : Array Value) {s : Nat} (hsz : s < ts.size) : ts = ts.setIfInBounds s (ts.getD s (.tuple #[])) := by
  apply Array.ext_getElem?
  intro i
  rw [Array.getElem?_setIfInBounds]
  split
  · rename_i e; subst e; simp [hsz]
  · rfl

/-- An owned tree is let go: its cell is dead. -/
theorem Sim.drop {w0 w : World} {M : MN} {E : Env} {σ : State} {ts : Array Value} (h : Sim w0 M E σ ts w) {s j : Nat} {sl : Slot} (hs : get σ s = some sl) (hj : j < sl.cs.length) : Sim w0 M E (put σ s (sl.setC j .dead)) ts w := by
  obtain ⟨hsz, hval⟩ := h.slots s sl hs
  have hts := set_same ts hsz
  have hnode : ∀ pl sz es, node (put σ s (sl.setC j .dead)) pl = some (.sl sz false es) → node σ pl = some (.sl sz false es) := by
    intro pl sz es he
    rw [node_setC hs hj] at he
    split at he
    · simp at he
    · exact he
  have hptr : ∀ pl, ptrOk (put σ s (sl.setC j .dead)) pl → ptrOk σ pl := by
    intro pl hk
    cases hq : pl.q with
    | nil => exact (ptrOk_setC_box hs hq).1 hk
    | cons a q =>
      unfold ptrOk at hk ⊢
      simp only [hq] at hk ⊢
      obtain ⟨x, hx⟩ := Option.isSome_iff_exists.1 hk
      rw [node_setC hs hj] at hx
      split at hx
      · simp at hx
      · simp [hx]
  have hfp : ∀ id a, fpOf E (put σ s (sl.setC j .dead)) id a → fpOf E σ id a := by
    rintro ⟨r, z⟩ a hf
    by_cases e : s = r
    · subst e
      cases z with
      | none =>
        obtain ⟨x, h1, h2, h3⟩ := hf
        rw [get_put_same] at h1
        simp only [Option.some.injEq] at h1
        subst h1
        exact ⟨sl, hs, h2, by simpa [Slot.setC] using h3⟩
      | some i =>
        obtain ⟨x, y, h1, h2, h3⟩ := hf
        rw [get_put_same] at h1
        simp only [Option.some.injEq] at h1
        subst h1
        rw [get_setC _ hj] at h2
        split at h2
        · simp at h2
        · exact ⟨sl, y, hs, h2, h3⟩
    · exact (fpOf_put_ne E σ _ e a).1 hf
  rw [hts]
  refine h.upd s _ _ hsz (fun _ _ => ⟨rfl, rfl⟩) (Shp.refl w) (fun _ _ _ _ _ hu => hu) h.frame ?_ ?_ ?_ ?_ ?_ ?_ ?_ ?_
  · intro s' sl' i pl sz lo len _ _ _ _ sz' es he
    exact ⟨es, hnode pl sz' es he, Nat.le_refl _, rfl⟩
  · intro s' sl' i pl _ _ _ _ hk
    exact ⟨hptr pl hk, rfl⟩
  · refine slotVal_setC hval rfl (fun _ _ _ _ _ _ hu => hu) (fun _ _ _ _ hz => hz) (fun i c u _ hi hc => ?_) (fun _ _ => trivial) (fun hb hlt => ?_)
    · refine cellVal_mono hc (fun _ _ => rfl) (fun pl sz lo len _ sz' es he => ⟨es, hnode pl sz' es he, Nat.le_refl _, rfl⟩) (fun pl _ hk => ⟨hptr pl hk, rfl⟩)
    · simp only [slotVal, hb] at hval
      obtain ⟨⟨u, hu, -⟩, -⟩ := hval.2 j _ (List.getElem?_eq_getElem hlt)
      exact ⟨u, hu⟩
  · intro i x hi
    rw [get_setC _ hj] at hi
    split at hi
    · simp at hi
    · exact h.own s sl i x hs hi
  · intro id id' a hne _ _ h1 h2
    exact h.disj id id' a hne (hfp id a h1) (hfp id' a h2)
  · intro id id' a e1 e2 h1 h2
    exact h.disj id id' a (fun e => e2 (by rw [← e]; exact e1)) (hfp id a h1) h2
  · intro id a _ h1
    exact h.mine id a (hfp id a h1)
  · intro i c r hi hc
    rw [get_setC _ hj] at hi
    split at hi
    · simp only [Option.some.injEq] at hi; subst hi; simp [Cell.root] at hc
    · have := h.refs s sl i c r hs hi hc
      rw [get_put]
      split
      · rfl
      · exact this

/-- A place to which an alias leads; a place to which an address leads. -/
def RefL (σ : State) (pl : Place) : Prop := ∃ s sl, get σ s = some sl ∧ ∃ (i : Nat) (sz lo ln : Nat), sl.cs[i]? = some (.lnk pl sz lo ln)
def RefP (σ : State) (pl : Place) : Prop := ∃ s sl, get σ s = some sl ∧ ∃ i : Nat, sl.cs[i]? = some (.ptr pl)

def Env.setA (E : Env) (s j : Nat) (α : Lay) : Env := ⟨E.B, fun s' j' => if s' = s ∧ j' = j then α else E.A s' j'⟩

theorem Env.setA_same (E : Env) (s j : Nat) (α : Lay) : (E.setA s j α).A s j = α := by simp [Env.setA]
theorem Env.setA_ne (E : Env) {s j s' j' : Nat} (α : Lay) (h : ¬ (s' = s ∧ j' = j)) : (E.setA s j α).A s' j' = E.A s' j' := by simp [Env.setA, h]
theorem Env.setA_bcell (E : Env) (s j s' c : Nat) (α : Lay) : (E.setA s j α).bcell s' c = E.bcell s' c := rfl

/-- One cell of a slot is turned. -/
theorem Sim.reset {w0 w w' : World} {M : MN} {E : Env} {σ : State} {ts : Array Value} (h : Sim w0 M E σ ts w) {s j : Nat} {sl : Slot} (hs : get σ s = some sl) (hj : j < sl.cs.length) (nc : Cell) (α : Lay)
    (hshp : Shp w w') (hfr : Frame w0 M w')
    (hw : ∀ id a, id ≠ (s, some j) → fpOf E σ id a → a ≠ E.bcell s j ∨ sl.sh ≠ .box → ∀ u, w.cell? a = some u → w'.cell? a = some u)
    (hnode : ∀ pl, RefL σ pl → pl.s = s → pl.c = j → ∀ sz es, node (put σ s (sl.setC j nc)) pl = some (.sl sz false es) → ∃ es0, node σ pl = some (.sl sz false es0) ∧ es0.length ≤ es.length ∧ α pl.q = E.at pl)
    (hptr : ∀ pl, RefP σ pl → pl.s = s → pl.c = j → ∀ i k q, pl.q = (i, k) :: q → ptrOk (put σ s (sl.setC j nc)) pl → ptrOk σ pl ∧ α q = E.A s j q)
    (hown : ∀ y, nc = .p y → ∃ u, Own w' y u α)
    (hdis : ∀ y, nc = .p y → ∀ id a, id ≠ (s, some j) → fpOf E σ id a → Fp y α a → False)
    (hmine : ∀ y, nc = .p y → ∀ a, Fp y α a → M a)
    (hval : ∀ v, ts.getD s (.tuple #[]) = v → ∀ u, cellIn E w' s sl v j u → cellVal w0 M (put σ s (sl.setC j nc)) (E.setA s j α) s j nc u)
    (hbox : sl.sh = .box → ∃ u, w'.cell? (E.bcell s j) = some u)
    (hroot : ∀ r, nc.root = some r → (get σ r).isSome = true) : Sim w0 M (E.setA s j α) (put σ s (sl.setC j nc)) ts w' := by
  obtain ⟨hsz, hv⟩ := h.slots s sl hs
  have hcell : ∀ s1 sl1 (i : Nat) c v, get σ s1 = some sl1 → sl1.cs[i]? = some c → (s1, i) ≠ (s, j) → cellVal w0 M σ E s1 i c v → cellVal w0 M (put σ s (sl.setC j nc)) (E.setA s j α) s1 i c v := by
    intro s1 sl1 i c v h1 h2 h3 hc
    refine cellVal_mono hc (fun y _ => ?_) (fun pl sz lo ln ex => ?_) (fun pl ex hk => ?_)
    · rw [Env.setA_ne E α (fun e => h3 (by rw [e.1, e.2]))]
    · have hr : RefL σ pl := ⟨s1, sl1, h1, i, sz, lo, ln, by rw [h2, ex]⟩
      intro sz' es he
      by_cases e : pl.s = s ∧ pl.c = j
      · obtain ⟨es0, g1, g2, g3⟩ := hnode pl hr e.1 e.2 sz' es he
        refine ⟨es0, g1, g2, ?_⟩
        simp only [Env.at] at g3 ⊢
        rw [e.1, e.2, Env.setA_same, g3, e.1, e.2]
      · rw [node_setC hs hj, if_neg e] at he
        refine ⟨es, he, Nat.le_refl _, ?_⟩
        simp only [Env.at]
        rw [Env.setA_ne E α e]
    · have hr : RefP σ pl := ⟨s1, sl1, h1, i, by rw [h2, ex]⟩
      cases hq : pl.q with
      | nil =>
        refine ⟨(ptrOk_setC_box hs hq).1 hk, ?_⟩
        unfold Env.addr
        simp only [hq]
        rfl
      | cons a q =>
        obtain ⟨i2, k2⟩ := a
        by_cases e : pl.s = s ∧ pl.c = j
        · obtain ⟨g1, g2⟩ := hptr pl hr e.1 e.2 i2 k2 q hq hk
          refine ⟨g1, ?_⟩
          unfold Env.addr
          simp only [hq]
          rw [e.1, e.2, Env.setA_same, g2]
        · have hk' : ptrOk σ pl := by
            unfold ptrOk at hk ⊢
            simp only [hq] at hk ⊢
            rw [node_setC hs hj, if_neg e] at hk
            exact hk
          refine ⟨hk', ?_⟩
          unfold Env.addr
          simp only [hq]
          rw [Env.setA_ne E α e]
  have hlook : ∀ (i : Nat), ((sl.setC j nc).cs)[i]? = if j = i then some nc else sl.cs[i]? := fun i => get_setC i hj
  have hfp : ∀ id a, id ≠ (s, some j) → fpOf (E.setA s j α) (put σ s (sl.setC j nc)) id a → fpOf E σ id a := by
    rintro ⟨r, z⟩ a hne hf
    by_cases e : s = r
    · subst e
      cases z with
      | none =>
        obtain ⟨x, h1, h2, h3⟩ := hf
        rw [get_put_same] at h1
        simp only [Option.some.injEq] at h1
        subst h1
        exact ⟨sl, hs, h2, by simpa [Slot.setC, Env.setA] using h3⟩
      | some i =>
        obtain ⟨x, y, h1, h2, h3⟩ := hf
        rw [get_put_same] at h1
        simp only [Option.some.injEq] at h1
        subst h1
        have hij : ¬ j = i := fun e => hne (by rw [e])
        rw [hlook, if_neg hij] at h2
        rw [Env.setA_ne E α (fun e => hij e.2.symm)] at h3
        exact ⟨sl, y, hs, h2, h3⟩
    · rw [fpOf_put_ne _ σ _ e] at hf
      cases z with
      | none => exact hf
      | some i =>
        obtain ⟨x, y, h1, h2, h3⟩ := hf
        rw [Env.setA_ne E α (fun e' => e e'.1.symm)] at h3
        exact ⟨x, y, h1, h2, h3⟩
  have hfpj : ∀ a, fpOf (E.setA s j α) (put σ s (sl.setC j nc)) (s, some j) a → ∃ y, nc = .p y ∧ Fp y α a := by
    rintro a ⟨x, y, h1, h2, h3⟩
    rw [get_put_same] at h1
    simp only [Option.some.injEq] at h1
    subst h1
    rw [hlook, if_pos rfl] at h2
    simp only [Option.some.injEq] at h2
    rw [Env.setA_same] at h3
    exact ⟨y, h2, h3⟩
  have hboxne : ∀ (i : Nat), i ≠ j → E.bcell s i ≠ E.bcell s j := by
    intro i hi e
    simp only [Env.bcell, Addr.mk.injEq, true_and, and_true] at e
    omega
  have hnotbox : ∀ r (i : Nat) a, fpOf E σ (r, some i) a → a ≠ E.bcell s j ∨ sl.sh ≠ .box := by
    intro r i a hf
    by_cases hb : sl.sh = .box
    · refine .inl fun e => ?_
      refine h.disj (r, some i) (s, none) a (by simp) hf ?_
      subst e
      exact ⟨sl, hs, hb, rfl, by simp [Env.bcell], by simp [Env.bcell, hj]⟩
    · exact .inr hb
  rw [set_same ts hsz]
  refine h.upd s _ _ hsz (fun r hr => ⟨rfl, funext fun i => Env.setA_ne E α (fun e => hr e.1)⟩) hshp (fun id a hid hf u hu => ?_) hfr ?_ ?_ ?_ ?_ ?_ ?_ ?_ ?_
  · refine hw id a (fun e => hid (by rw [e])) hf ?_ u hu
    by_cases hb : sl.sh = .box
    · refine .inl fun e => ?_
      refine h.disj id (s, none) a (fun e' => hid (by rw [e'])) hf ?_
      subst e
      exact ⟨sl, hs, hb, rfl, by simp [Env.bcell], by simp [Env.bcell, hj]⟩
    · exact .inr hb
  · intro s' sl' i pl sz lo ln hne h1 h2 hp sz' es he
    have hr : RefL σ pl := ⟨s', sl', h1, i, sz, lo, ln, h2⟩
    by_cases e : pl.c = j
    · obtain ⟨es0, g1, g2, g3⟩ := hnode pl hr hp e sz' es he
      refine ⟨es0, g1, g2, ?_⟩
      simp only [Env.at] at g3 ⊢
      rw [hp, e, Env.setA_same, g3, hp, e]
    · rw [node_setC hs hj, if_neg (fun e' => e e'.2)] at he
      refine ⟨es, he, Nat.le_refl _, ?_⟩
      simp only [Env.at]
      rw [Env.setA_ne E α (fun e' => e e'.2)]
  · intro s' sl' i pl hne h1 h2 hp hk
    have hr : RefP σ pl := ⟨s', sl', h1, i, h2⟩
    cases hq : pl.q with
    | nil =>
      refine ⟨(ptrOk_setC_box hs hq).1 hk, ?_⟩
      unfold Env.addr
      simp only [hq]
      rfl
    | cons a q =>
      obtain ⟨i2, k2⟩ := a
      by_cases e : pl.c = j
      · obtain ⟨g1, g2⟩ := hptr pl hr hp e i2 k2 q hq hk
        refine ⟨g1, ?_⟩
        unfold Env.addr
        simp only [hq]
        rw [hp, e, Env.setA_same, g2]
      · have hk' : ptrOk σ pl := by
          unfold ptrOk at hk ⊢
          simp only [hq] at hk ⊢
          rw [node_setC hs hj, if_neg (fun e' => e e'.2)] at hk
          exact hk
        refine ⟨hk', ?_⟩
        unfold Env.addr
        simp only [hq]
        rw [Env.setA_ne E α (fun e' => e e'.2)]
  · refine slotVal_setC hv rfl (fun hb i c hne hi u hu => ?_) (fun hb i c hi hz => ?_) (fun i c u hne hi hc => hcell s sl i c u hs hi (fun e => hne (by simpa using congrArg Prod.snd e)) hc) (fun u hu => hval _ rfl u hu) (fun hb _ => hbox hb)
    · refine hw (s, none) _ (by simp) ⟨sl, hs, hb, rfl, by simp [Env.bcell], ?_⟩ (.inl (hboxne i hne)) u hu
      have := (List.getElem?_eq_some_iff.1 hi).1
      simp only [Env.bcell]; omega
    · simp only [slotVal, hb] at hv
      obtain ⟨⟨u, hu, -⟩, -⟩ := hv.2 i c hi
      obtain ⟨c0, e0, fz0, g1, -, -⟩ := cell_some_block hu
      rw [hshp.frozen g1]; exact hz
  · intro i x hi
    rw [hlook] at hi
    split at hi
    · rename_i e
      subst e
      simp only [Option.some.injEq] at hi
      rw [Env.setA_same]
      exact hown x hi
    · rename_i e
      rw [Env.setA_ne E α (fun e' => e e'.2.symm)]
      obtain ⟨u, g1⟩ := h.own s sl i x hs hi
      refine ⟨u, g1.frame hshp fun a ha u hu => ?_⟩
      have hf : fpOf E σ (s, some i) a := ⟨sl, x, hs, hi, ha⟩
      exact hw (s, some i) a (fun e' => e (by simpa using (congrArg Prod.snd e').symm)) hf (hnotbox s i a hf) u hu
  · intro id id' a hne e1 e2 h1 h2
    by_cases g1 : id = (s, some j)
    · subst g1
      obtain ⟨y, hy, hf⟩ := hfpj a h1
      exact hdis y hy id' a (fun e => hne e.symm) (hfp id' a (fun e => hne e.symm) h2) hf
    · by_cases g2 : id' = (s, some j)
      · subst g2
        obtain ⟨y, hy, hf⟩ := hfpj a h2
        exact hdis y hy id a g1 (hfp id a g1 h1) hf
      · exact h.disj id id' a hne (hfp id a g1 h1) (hfp id' a g2 h2)
  · intro id id' a e1 e2 h1 h2
    have hne : id' ≠ (s, some j) := fun e => e2 (by rw [e])
    by_cases g1 : id = (s, some j)
    · subst g1
      obtain ⟨y, hy, hf⟩ := hfpj a h1
      exact hdis y hy id' a hne h2 hf
    · exact h.disj id id' a (fun e => e2 (by rw [← e]; exact e1)) (hfp id a g1 h1) h2
  · intro id a e1 h1
    by_cases g1 : id = (s, some j)
    · subst g1
      obtain ⟨y, hy, hf⟩ := hfpj a h1
      exact hmine y hy a hf
    · exact h.mine id a (hfp id a g1 h1)
  · intro i c r hi hc
    rw [hlook] at hi
    have : (get σ r).isSome = true := by
      split at hi
      · simp only [Option.some.injEq] at hi
        subst hi
        exact hroot r hc
      · exact h.refs s sl i c r hs hi hc
    rw [get_put]
    split
    · rfl
    · exact this

end Go.Tq
/- Writing cells of memory: the machine's state and the world. -/
namespace Go.Tq
open Go.RowKit

theorem shp_setCell (w : World) (a : Addr) (u : Value) : Shp w (w.setCell a u) := by
  intro b c e fz hb
  simp only [World.setCell, Array.getElem?_modify, hb, Option.map_some]
  by_cases h : a.block = b
  · simp only [h, if_true]
    refine ⟨_, rfl, ?_⟩
    split <;> simp
  · simp only [h, if_false]
    exact ⟨c, rfl, rfl⟩

theorem cell_setCell_ne {w : World} {a b : Addr} {u : Value} (h : b ≠ a) {v : Value} (hv : w.cell? b = some v) : (w.setCell a u).cell? b = some v := by
  obtain ⟨c, e, fz, h1, h2, h3⟩ := cell_some_block hv
  by_cases hb : a.block = b.block
  · have : (w.setCell a u).heap[b.block]? = some (Obj.cells (if a.spot.isSome then c else c.setIfInBounds a.off u) e fz) := by
      simp [World.setCell, Array.getElem?_modify, h1, hb]
    rw [cell_of_block this h2]
    split
    · exact h3
    · rename_i hs
      have hoff : a.off ≠ b.off := by
        intro e2
        apply h
        cases a; cases b
        simp_all
      rw [Array.getElem?_setIfInBounds, if_neg hoff]
      exact h3
  · have : (w.setCell a u).heap[b.block]? = some (Obj.cells c e fz) := by
      simp [World.setCell, Array.getElem?_modify, h1, hb]
    rw [cell_of_block this h2]
    exact h3

theorem cell_setCell_same {w : World} {a : Addr} {u v : Value} (hv : w.cell? a = some v) : (w.setCell a u).cell? a = some u := World.cell?_setCell_same w a u hv

theorem Frame.setCell {w0 w : World} {M : MN} (h : Frame w0 M w) {b o : Nat} (hm : M ⟨b, o, none⟩) (u : Value) : Frame w0 M (w.setCell ⟨b, o, none⟩ u) where
  os := h.os
  tape := h.tape
  output := h.output
  size := by simp [World.setCell]; exact h.size
  cells b' c e fz hb := by
    obtain ⟨c', h1, h2, h3⟩ := h.cells b' c e fz hb
    by_cases hbb : b = b'
    · subst hbb
      refine ⟨c'.setIfInBounds o u, by simp [World.setCell, Array.getElem?_modify, h1], by simpa using h2, fun o' ho' => ?_⟩
      rw [Array.getElem?_setIfInBounds]
      split
      · rename_i e2; subst e2; exact (ho' hm).elim
      · exact h3 o' ho'
    · exact ⟨c', by simp [World.setCell, Array.getElem?_modify, h1, hbb], h2, h3⟩
  other b' hlt hne := by
    have h1 := h.other b' hlt hne
    by_cases hbb : b = b'
    · subst hbb
      simp only [World.setCell, Array.getElem?_modify, if_true]
      rw [h1]
      cases hx : w0.heap[b]? with
      | none => rfl
      | some x =>
        cases x <;> first | rfl | skip
        rename_i c e fz
        exact (hne c e fz hx).elim
    · simp [World.setCell, Array.getElem?_modify, hbb, h1]

theorem Frame.alloc {w0 w : World} {M : MN} (h : Frame w0 M w) (x : Obj) : Frame w0 M (w.alloc x) where
  os := h.os
  tape := h.tape
  output := h.output
  size := by have := h.size; simp; omega
  cells b' c e fz hb := by
    obtain ⟨c', h1, h2, h3⟩ := h.cells b' c e fz hb
    have hlt : b' < w.heap.size := (Array.getElem?_eq_some_iff.1 h1).1
    exact ⟨c', by rw [Below.heap_alloc w x b' hlt]; exact h1, h2, h3⟩
  other b' hlt hne := by
    rw [Below.heap_alloc w x b' (Nat.lt_of_lt_of_le hlt h.size)]
    exact h.other b' hlt hne

theorem shp_alloc (w : World) (x : Obj) : Shp w (w.alloc x) := by
  intro b c e fz hb
  have hlt : b < w.heap.size := (Array.getElem?_eq_some_iff.1 hb).1
  exact ⟨c, by rw [Below.heap_alloc w x b hlt]; exact hb, rfl⟩

theorem cell_alloc {w : World} {a : Addr} {v : Value} (hv : w.cell? a = some v) (x : Obj) : (w.alloc x).cell? a = some v := by
  obtain ⟨c, e, fz, h1, h2, h3⟩ := cell_some_block hv
  have hlt : a.block < w.heap.size := (Array.getElem?_eq_some_iff.1 h1).1
  rw [cell_of_block (by rw [Below.heap_alloc w x _ hlt]; exact h1) h2]
  exact h3

theorem Frame.drew {w0 w w' : World} {M : MN} (h : Frame w0 M w) (hh : w'.heap = w.heap) (ho : w'.os = w.os) (ht : w'.tape = w.tape) (hu : w'.output = w.output) : Frame w0 M w' where
  os := ho.trans h.os
  tape := ht.trans h.tape
  output := hu.trans h.output
  size := by rw [hh]; exact h.size
  cells := by rw [hh]; exact h.cells
  other := by rw [hh]; exact h.other

section
variable {w w0 : World} {M : MN} {σ : State} {E : Env} {ts : Array Value}

theorem Env.setA_self (E : Env) (s j : Nat) : E.setA s j (E.A s j) = E := by
  cases E with
  | mk B A =>
    simp only [Env.setA, Env.mk.injEq, true_and]
    funext s' j'
    split
    · rename_i e; rw [e.1, e.2]
    · rfl

theorem slotVal_cellIn {s : Nat} {sl : Slot} {v u : Value} {j : Nat} {c : Cell} (h : slotVal w0 M σ E w s sl v) (hj : sl.cs[j]? = some c) (hu : cellIn E w s sl v j u) : cellVal w0 M σ E s j c u := by
  unfold slotVal at h
  unfold cellIn at hu
  cases hsh : sl.sh with
  | one =>
    simp only [hsh] at h hu
    obtain ⟨c', h1, h2⟩ := h
    rw [h1] at hj
    cases j with
    | zero => simp only [List.getElem?_cons_zero, Option.some.injEq] at hj; subst hj; subst hu; exact h2
    | succ j => simp at hj
  | agg =>
    simp only [hsh] at h hu
    obtain ⟨arr, h1, h2, h3⟩ := h
    obtain ⟨arr', h4, h5⟩ := hu
    rw [h1] at h4
    simp only [Value.agg.injEq] at h4
    subst h4
    obtain ⟨u', h6, h7⟩ := h3 j c hj
    rw [h5] at h6
    simp only [Option.some.injEq] at h6
    subst h6
    exact h7
  | box =>
    simp only [hsh] at h hu
    obtain ⟨⟨u', h6, h7⟩, -⟩ := h.2 j c hj
    rw [hu] at h6
    simp only [Option.some.injEq] at h6
    subst h6
    exact h7
  | tup l =>
    simp only [hsh] at h hu
    obtain ⟨arr, h1, h2, h3⟩ := h
    obtain ⟨arr', h4, i, o, z, h5, h6⟩ := hu
    rw [h1] at h4
    simp only [Value.tuple.injEq] at h4
    subst h4
    obtain ⟨u', h7, h8⟩ := h3 i o z h5
    cases z with
    | none =>
      obtain ⟨e, h9⟩ := h6
      subst e
      obtain ⟨c', h10, h11⟩ := h8
      rw [hj] at h10
      simp only [Option.some.injEq] at h10
      subst h10
      rw [h9] at h7
      simp only [Option.some.injEq] at h7
      subst h7
      exact h11
    | some n =>
      obtain ⟨k, a2, g1, g2, g3, g4⟩ := h6
      subst g2
      obtain ⟨a3, f1, f2, f3⟩ := h8
      rw [g3, f1] at h7
      simp only [Option.some.injEq, Value.agg.injEq] at h7
      subst h7
      obtain ⟨u2, c', f4, f5, f6⟩ := f3 k g1
      rw [hj] at f5
      simp only [Option.some.injEq] at f5
      subst f5
      rw [g4] at f4
      simp only [Option.some.injEq] at f4
      subst f4
      exact f6
  | gone => simp [hsh] at hu

theorem cellIn_world {w' : World} {s : Nat} {sl : Slot} {v u : Value} {j : Nat} (hb : sl.sh = .box → w'.cell? (E.bcell s j) = w.cell? (E.bcell s j)) (hu : cellIn E w' s sl v j u) : cellIn E w s sl v j u := by
  unfold cellIn at hu ⊢
  cases hsh : sl.sh with
  | box => simp only [hsh] at hu ⊢; rw [← hb hsh]; exact hu
  | one => simpa only [hsh] using hu
  | agg => simpa only [hsh] using hu
  | tup l => simpa only [hsh] using hu
  | gone => simp [hsh] at hu

theorem flat_getR {x : PV} {n : Node} {v : Value} (hf : x.flat = true) (hv : pvVal n x v) {q : Steps} {y : PV} (hq : x.getR q = some y) : q = [] ∧ y.flat = true := by
  rcases List.eq_nil_or_concat q with rfl | ⟨q', b, rfl⟩
  · simp only [PV.getR, Option.some.injEq] at hq
    subst hq
    exact ⟨rfl, hf⟩
  · rw [List.concat_eq_append, getR_flat hf] at hq
    · simp at hq
    · intro sz es e
      subst e
      exact hv.2

theorem refVal_to {σ' : State} {E' : Env} {s j : Nat} {x : Cell} {v : Value} (h : refVal w0 M σ E x v)
    (hl : ∀ pl sz lo len, x = .lnk pl sz lo len → ∀ sz' es, node σ' pl = some (.sl sz' false es) → ∃ es0, node σ pl = some (.sl sz' false es0) ∧ es0.length ≤ es.length ∧ E'.at pl = E.at pl)
    (hr : ∀ pl, x = .ptr pl → ptrOk σ' pl → ptrOk σ pl ∧ E'.addr pl = E.addr pl) : cellVal w0 M σ' E' s j x v := by
  cases x with
  | p y => exact pvVal_flat h.1 h.2
  | _ => exact cellVal_mono (s := 0) (c := 0) h.2 (fun y e => by simp at e) hl hr

/-- A cell of a box is written; what is written owns nothing. -/
theorem Sim.writeB (h : Sim w0 M E σ ts w) {s j : Nat} {sl : Slot} (hs : get σ s = some sl) (hb : sl.sh = .box) (hj : j < sl.cs.length) {nc : Cell} {u : Value} (hu : refVal w0 M σ E nc u) (hroot : ∀ r, nc.root = some r → (get σ r).isSome = true) :
    (∃ old, w.cell? (E.bcell s j) = some old) ∧ w.frozen? (E.bcell s j) = false ∧ Sim w0 M E (put σ s (sl.setC j nc)) ts (w.setCell (E.bcell s j) u) := by
  obtain ⟨hsz, hv⟩ := h.slots s sl hs
  simp only [slotVal, hb] at hv
  obtain ⟨⟨old, hold, -⟩, hfz⟩ := hv.2 j _ (List.getElem?_eq_getElem hj)
  refine ⟨⟨old, hold⟩, hfz, ?_⟩
  have hin : fpOf E σ (s, none) (E.bcell s j) := ⟨sl, hs, hb, rfl, by simp [Env.bcell], by simp [Env.bcell, hj]⟩
  have hnn : ∀ pl, pl.s = s → pl.c = j → ∀ y, node (put σ s (sl.setC j nc)) pl = some y → pl.q = [] ∧ y.flat = true := by
    intro pl e1 e2 y he
    rw [node_setC hs hj, if_pos ⟨e1, e2⟩] at he
    split at he
    · exact flat_getR hu.1 hu.2 he
    · simp at he
  refine Eq.mp (congrArg (fun E' => Sim w0 M E' (put σ s (sl.setC j nc)) ts (w.setCell (E.bcell s j) u)) (Env.setA_self E s j)) ?_
  refine h.reset hs hj nc _ (shp_setCell _ _ _) (h.frame.setCell (h.mine _ _ hin) u) ?_ ?_ ?_ ?_ ?_ ?_ ?_ ?_ hroot
  · intro id a hne hf hor v hv2
    rcases hor with hor | hor
    · exact cell_setCell_ne hor hv2
    · exact (hor hb).elim
  · intro pl _ e1 e2 sz es he
    obtain ⟨-, h2⟩ := hnn pl e1 e2 _ he
    simp [PV.flat] at h2
  · intro pl _ e1 e2 i k q hq hk
    unfold ptrOk at hk
    simp only [hq] at hk
    obtain ⟨x, hx⟩ := Option.isSome_iff_exists.1 hk
    obtain ⟨h2, -⟩ := hnn pl e1 e2 _ hx
    simp [hq] at h2
  · intro y hy
    subst hy
    exact ⟨u, Own.of_flat hu.1 (pvVal_flat hu.1 hu.2)⟩
  · intro y hy id a hne hf ha
    subst hy
    exact fp_flat hu.1 hu.2 ha
  · intro y hy a ha
    subst hy
    exact (fp_flat hu.1 hu.2 ha).elim
  · intro v _ u' hu'
    simp only [cellIn, hb] at hu'
    rw [cell_setCell_same hold] at hu'
    simp only [Option.some.injEq] at hu'
    subst hu'
    refine refVal_to hu (fun pl sz lo ln ex sz' es he => ?_) (fun pl ex hk => ?_)
    · by_cases e : pl.s = s ∧ pl.c = j
      · obtain ⟨-, h2⟩ := hnn pl e.1 e.2 _ he
        simp [PV.flat] at h2
      · rw [node_setC hs hj, if_neg e] at he
        exact ⟨es, he, Nat.le_refl _, by simp only [Env.at]; rw [Env.setA_ne E _ e]⟩
    · cases hq : pl.q with
      | nil =>
        refine ⟨(ptrOk_setC_box hs hq).1 hk, ?_⟩
        unfold Env.addr; simp only [hq]; rfl
      | cons a q =>
        obtain ⟨i2, k2⟩ := a
        have hk2 := hk
        unfold ptrOk at hk
        simp only [hq] at hk
        by_cases e : pl.s = s ∧ pl.c = j
        · obtain ⟨x, hx⟩ := Option.isSome_iff_exists.1 hk
          obtain ⟨h2, -⟩ := hnn pl e.1 e.2 _ hx
          simp [hq] at h2
        · rw [node_setC hs hj, if_neg e] at hk
          refine ⟨by unfold ptrOk; simp only [hq]; exact hk, ?_⟩
          unfold Env.addr; simp only [hq]
          rw [Env.setA_ne E _ e]
  · intro _
    exact ⟨u, cell_setCell_same hold⟩

theorem Lay.upd_self (α : Lay) (q : Steps) : α.upd q (fun r => α (r ++ q)) = α := by
  funext q2
  unfold Lay.upd
  split
  · rename_i r hr; rw [front_some hr]
  · rfl

/-- A cell of an owned tree is written; what is written owns nothing. -/
theorem Sim.writeN (h : Sim w0 M E σ ts w) {s j : Nat} {sl : Slot} {x y old : PV} {i k : Nat} {q : Steps} (hs : get σ s = some sl) (hj : sl.cs[j]? = some (.p x)) (hold : x.getR ((i, k) :: q) = some old) {u : Value} (hf : y.flat = true) (hu : pvVal ⟨0, 0, 0, 0⟩ y u) :
    (∃ old, w.cell? ((E.A s j q).cell i k) = some old) ∧ w.frozen? ((E.A s j q).cell i k) = false ∧ Sim w0 M E (put σ s (sl.setC j (.p (x.setR ((i, k) :: q) y)))) ts (w.setCell ((E.A s j q).cell i k) u) := by
  obtain ⟨hsz, hv⟩ := h.slots s sl hs
  obtain ⟨vx, hown⟩ := h.own s sl j x hs hj
  obtain ⟨ov, hov, -⟩ := hown.cell q i k old hold
  obtain ⟨sz0, es0, cs0, n1, n2, n3, n4, n5, n6, n7⟩ := hown.at_node hold
  have hjl : j < sl.cs.length := (List.getElem?_eq_some_iff.1 hj).1
  have hfx : fpOf E σ (s, some j) ((E.A s j q).cell i k) := ⟨sl, x, hs, hj, hown.fp_cell hold⟩
  refine ⟨⟨ov, hov⟩, n4.2.2.2.2 _ n7, ?_⟩
  have hsome : (x.getR ((i, k) :: q)).isSome := by simp [hold]
  have hset : Own (w.setCell ((E.A s j q).cell i k) u) (x.setR ((i, k) :: q) y) vx ((E.A s j).upd ((i, k) :: q) (fun r => E.A s j (r ++ ((i, k) :: q)))) :=
    hown.set hold (shp_setCell _ _ _) (fun a _ hne v hv => cell_setCell_ne hne hv) (cell_setCell_same hov) (Own.of_flat hf (pvVal_flat hf hu)) (fun a _ hy => fp_flat hf hu hy)
  rw [Lay.upd_self] at hset
  have hfp : ∀ a, Fp (x.setR ((i, k) :: q) y) (E.A s j) a → Fp x (E.A s j) a := by
    intro a ha
    rw [← Lay.upd_self (E.A s j) ((i, k) :: q)] at ha
    rcases fp_set hold ha with ⟨h1, -⟩ | h1
    · exact h1
    · exact (fp_flat hf hu h1).elim
  -- what stands at a place of the new tree
  have hgetR : ∀ q2 sz es, (x.setR ((i, k) :: q) y).getR q2 = some (.sl sz false es) → ∃ es0, x.getR q2 = some (.sl sz false es0) ∧ es0.length = es.length := by
    intro q2 sz es he
    cases hq : front ((i, k) :: q) q2 with
    | some r =>
      have e := front_some hq
      subst e
      rw [PV.getR_setR_front _ _ _ hsome] at he
      obtain ⟨-, h2⟩ := flat_getR hf hu he
      simp [PV.flat] at h2
    | none =>
      obtain ⟨g1, g2⟩ := PV.getR_setR_other x ((i, k) :: q) y hsome q2 hq
      cases hx : x.getR q2 with
      | none => rw [g2 hx] at he; simp at he
      | some p =>
        obtain ⟨y', a1, a2, -⟩ := g1 p hx
        rw [a1] at he
        simp only [Option.some.injEq] at he
        subst he
        cases p <;> simp only [sameTop, reduceCtorEq] at a2
        obtain ⟨rfl, rfl, h3, -⟩ := a2
        exact ⟨_, rfl, h3⟩
  have hgetS : ∀ q2, ((x.setR ((i, k) :: q) y).getR q2).isSome = true → (x.getR q2).isSome = true := by
    intro q2 he
    cases hq : front ((i, k) :: q) q2 with
    | some r =>
      have e := front_some hq
      subst e
      rw [PV.getR_setR_front _ _ _ hsome] at he
      obtain ⟨z, hz⟩ := Option.isSome_iff_exists.1 he
      obtain ⟨h1, -⟩ := flat_getR hf hu hz
      subst h1
      exact hsome
    | none =>
      obtain ⟨g1, g2⟩ := PV.getR_setR_other x ((i, k) :: q) y hsome q2 hq
      cases hx : x.getR q2 with
      | none => rw [g2 hx] at he; simp at he
      | some p => rfl
  have hnode : ∀ pl, pl.s = s → pl.c = j → ∀ z, node σ pl = z → z = x.getR pl.q := by
    intro pl e1 e2 z hz
    rw [← hz]
    simp [node, e1, e2, hs, hj]
  refine Eq.mp (congrArg (fun E' => Sim w0 M E' (put σ s (sl.setC j (.p (x.setR ((i, k) :: q) y)))) ts (w.setCell ((E.A s j q).cell i k) u)) (Env.setA_self E s j)) ?_
  refine h.reset hs hjl _ _ (shp_setCell _ _ _) (h.frame.setCell (h.mine _ _ hfx) u) ?_ ?_ ?_ ?_ ?_ ?_ ?_ ?_ (by simp [Cell.root])
  · intro id a hne hf2 _ v hv2
    refine cell_setCell_ne (fun e => ?_) hv2
    subst e
    exact h.disj id (s, some j) _ hne hf2 hfx
  · intro pl _ e1 e2 sz es he
    rw [node_setC hs hjl, if_pos ⟨e1, e2⟩] at he
    obtain ⟨es0, g1, g2⟩ := hgetR _ _ _ he
    refine ⟨es0, by simp [node, e1, e2, hs, hj, g1], by omega, ?_⟩
    simp [Env.at, e1, e2]
  · intro pl _ e1 e2 i2 k2 q2 hq hk
    unfold ptrOk at hk ⊢
    simp only [hq] at hk ⊢
    rw [node_setC hs hjl, if_pos ⟨e1, e2⟩] at hk
    refine ⟨?_, trivial⟩
    have := hgetS _ hk
    simp only [node, e1, e2, hs, hj, Option.bind_some]
    exact this
  · intro z hz
    simp only [Cell.p.injEq] at hz
    subst hz
    exact ⟨vx, hset⟩
  · intro z hz id a hne hf2 ha
    simp only [Cell.p.injEq] at hz
    subst hz
    exact h.disj id (s, some j) a hne hf2 ⟨sl, x, hs, hj, hfp a ha⟩
  · intro z hz a ha
    simp only [Cell.p.injEq] at hz
    subst hz
    exact h.mine (s, some j) a ⟨sl, x, hs, hj, hfp a ha⟩
  · intro v hveq u' hu'
    subst hveq
    have hb : sl.sh = .box → (w.setCell ((E.A s j q).cell i k) u).cell? (E.bcell s j) = w.cell? (E.bcell s j) := by
      intro hb
      have hv2 := hv
      simp only [slotVal, hb] at hv2
      obtain ⟨⟨u2, hu2, -⟩, -⟩ := hv2.2 j _ hj
      rw [hu2]
      refine cell_setCell_ne (fun e => ?_) hu2
      refine h.disj (s, none) (s, some j) _ (by simp) ?_ hfx
      rw [← e]
      exact ⟨sl, hs, hb, rfl, by simp [Env.bcell], by simp [Env.bcell, hjl]⟩
    have := slotVal_cellIn hv hj (cellIn_world hb hu')
    simp only [cellVal] at this ⊢
    rw [Env.setA_same]
    obtain ⟨g1, -⟩ := PV.getR_setR_other x ((i, k) :: q) y hsome [] (by simp [front])
    obtain ⟨y', a1, a2, -⟩ := g1 x rfl
    simp only [PV.getR, Option.some.injEq] at a1
    rw [a1]
    exact pvVal_sameTop a2 this
  · intro hb
    have hv2 := hv
    simp only [slotVal, hb] at hv2
    obtain ⟨⟨u2, hu2, -⟩, -⟩ := hv2.2 j _ hj
    refine ⟨u2, cell_setCell_ne (fun e => ?_) hu2⟩
    refine h.disj (s, none) (s, some j) _ (by simp) ?_ hfx
    rw [← e]
    exact ⟨sl, hs, hb, rfl, by simp [Env.bcell], by simp [Env.bcell, hjl]⟩

end
end Go.Tq
/- What is owned comes to another place. -/
namespace Go.Tq
open Go.RowKit

def shp (q : Steps) : List Nat := q.map (·.2)

def endsIn (sh l : List Nat) : Bool := decide (sh.length ≤ l.length) && decide (l.drop (l.length - sh.length) = sh)

theorem endsIn_append (r q : Steps) : endsIn (shp q) (shp (r ++ q)) = true := by
  simp [endsIn, shp]

/-- What leads into the tree at a place ends. -/
def Cell.cutN (s c : Nat) (sh : List Nat) : Cell → Cell
  | .lnk pl sz lo n => if pl.s = s ∧ pl.c = c ∧ endsIn sh (shp pl.q) = true then .dead else .lnk pl sz lo n
  | .ptr pl => match pl.q with
    | [] => .ptr pl
    | _ :: q => if pl.s = s ∧ pl.c = c ∧ endsIn sh (shp q) = true then .dead else .ptr pl
  | c => c

theorem cuts_cutN (s c : Nat) (sh : List Nat) : Cuts (Cell.cutN s c sh) := by
  intro x
  cases x with
  | lnk pl sz lo n =>
    simp only [Cell.cutN]
    split
    · exact .inr ⟨rfl, _, rfl⟩
    · exact .inl rfl
  | ptr pl =>
    simp only [Cell.cutN]
    split
    · exact .inl rfl
    · split
      · exact .inr ⟨rfl, _, rfl⟩
      · exact .inl rfl
  | _ => exact .inl rfl

theorem refL_cutN {σ : State} {s c : Nat} {sh : List Nat} {pl : Place} (h : RefL (mapC (Cell.cutN s c sh) σ) pl) : ¬ (pl.s = s ∧ pl.c = c ∧ endsIn sh (shp pl.q) = true) := by
  obtain ⟨s1, sl1, h1, i, sz, lo, ln, h2⟩ := h
  simp only [get_mapC, Option.map_eq_some_iff] at h1
  obtain ⟨s0, -, rfl⟩ := h1
  simp only [List.getElem?_map, Option.map_eq_some_iff] at h2
  obtain ⟨x, -, hx⟩ := h2
  rcases cuts_cutN s c sh x with e | ⟨e, -⟩
  · rw [e] at hx
    subst hx
    intro hc
    simp only [Cell.cutN, if_pos hc, reduceCtorEq] at e
  · rw [e] at hx; simp at hx

theorem refP_cutN {σ : State} {s c : Nat} {sh : List Nat} {pl : Place} (h : RefP (mapC (Cell.cutN s c sh) σ) pl) {a : Nat × Nat} {q : Steps} (hq : pl.q = a :: q) : ¬ (pl.s = s ∧ pl.c = c ∧ endsIn sh (shp q) = true) := by
  obtain ⟨s1, sl1, h1, i, h2⟩ := h
  simp only [get_mapC, Option.map_eq_some_iff] at h1
  obtain ⟨s0, -, rfl⟩ := h1
  simp only [List.getElem?_map, Option.map_eq_some_iff] at h2
  obtain ⟨x, -, hx⟩ := h2
  rcases cuts_cutN s c sh x with e | ⟨e, -⟩
  · rw [e] at hx
    subst hx
    intro hc
    simp only [Cell.cutN, hq, if_pos hc, reduceCtorEq] at e
  · rw [e] at hx; simp at hx

section
variable {w w0 : World} {M : MN} {σ : State} {E : Env} {ts : Array Value}

/-- An owned tree comes to a cell of a slot: the header stands there already. -/
theorem Sim.reviveB (h : Sim w0 M E σ ts w) {d i : Nat} {sl : Slot} (hs : get σ d = some sl) (hi : i < sl.cs.length) {x : PV} {α : Lay} {vx : Value} (hx : Own w x vx α)
    (hdis : ∀ id a, id ≠ (d, some i) → fpOf E σ id a → Fp x α a → False) (hm : ∀ a, Fp x α a → M a)
    (hL : ∀ pl, RefL σ pl → ¬ (pl.s = d ∧ pl.c = i)) (hP : ∀ pl, RefP σ pl → pl.s = d → pl.c = i → pl.q = [])
    (hval : ∀ u, cellIn E w d sl (ts.getD d (.tuple #[])) i u → pvVal (α []) x u) : Sim w0 M (E.setA d i α) (put σ d (sl.setC i (.p x))) ts w := by
  refine h.reset hs hi _ α (Shp.refl w) h.frame (fun _ _ _ _ _ _ hu => hu) ?_ ?_ ?_ ?_ ?_ ?_ ?_ (by simp [Cell.root])
  · intro pl hr e1 e2
    exact (hL pl hr ⟨e1, e2⟩).elim
  · intro pl hr e1 e2 i2 k2 q hq
    have := hP pl hr e1 e2
    rw [hq] at this
    simp at this
  · intro y hy
    simp only [Cell.p.injEq] at hy
    subst hy
    exact ⟨vx, hx⟩
  · intro y hy id a hne hf ha
    simp only [Cell.p.injEq] at hy
    subst hy
    exact hdis id a hne hf ha
  · intro y hy a ha
    simp only [Cell.p.injEq] at hy
    subst hy
    exact hm a ha
  · intro v hv u hu
    subst hv
    simp only [cellVal]
    rw [Env.setA_same]
    exact hval u hu
  · intro hb
    obtain ⟨-, hv⟩ := h.slots d sl hs
    simp only [slotVal, hb] at hv
    obtain ⟨⟨u, hu, -⟩, -⟩ := hv.2 i _ (List.getElem?_eq_getElem hi)
    exact ⟨u, hu⟩

/-- An owned tree comes to a cell of another owned tree: the header stands there already. -/
theorem Sim.reviveN (h : Sim w0 M E σ ts w) {d j : Nat} {sl : Slot} {z old : PV} {i k : Nat} {q : Steps} (hs : get σ d = some sl) (hj : sl.cs[j]? = some (.p z)) (hold : z.getR ((i, k) :: q) = some old) {x : PV} {α : Lay} {u : Value} (hx : Own w x u α)
    (hu : w.cell? ((E.A d j q).cell i k) = some u) (hdis : ∀ id a, fpOf E σ id a → Fp x α a → False) (hm : ∀ a, Fp x α a → M a)
    (hL : ∀ pl, RefL σ pl → ¬ (pl.s = d ∧ pl.c = j ∧ endsIn (k :: shp q) (shp pl.q) = true)) (hP : ∀ pl a q', RefP σ pl → pl.q = a :: q' → ¬ (pl.s = d ∧ pl.c = j ∧ endsIn (k :: shp q) (shp q') = true)) :
    Sim w0 M (E.setA d j ((E.A d j).upd ((i, k) :: q) α)) (put σ d (sl.setC j (.p (z.setR ((i, k) :: q) x)))) ts w := by
  obtain ⟨hsz, hv⟩ := h.slots d sl hs
  obtain ⟨vz, hown⟩ := h.own d sl j z hs hj
  have hjl : j < sl.cs.length := (List.getElem?_eq_some_iff.1 hj).1
  have hsome : (z.getR ((i, k) :: q)).isSome := by simp [hold]
  have hfz : ∀ a, Fp z (E.A d j) a → fpOf E σ (d, some j) a := fun a ha => ⟨sl, z, hs, hj, ha⟩
  have hset := hown.set hold (Shp.refl w) (fun a _ _ v hv => hv) hu hx (fun a h1 h2 => hdis _ a (hfz a h1) h2)
  have hfp : ∀ a, Fp (z.setR ((i, k) :: q) x) ((E.A d j).upd ((i, k) :: q) α) a → Fp z (E.A d j) a ∨ Fp x α a := by
    intro a ha
    rcases fp_set hold ha with ⟨h1, -⟩ | h1
    · exact .inl h1
    · exact .inr h1
  -- what an alias leads to is not below the path
  have hfrontL : ∀ pl, RefL σ pl → pl.s = d → pl.c = j → front ((i, k) :: q) pl.q = none := by
    intro pl hr e1 e2
    cases hf : front ((i, k) :: q) pl.q with
    | none => rfl
    | some r =>
      have e := front_some hf
      exact (hL pl hr ⟨e1, e2, by rw [e]; exact endsIn_append r ((i, k) :: q)⟩).elim
  refine h.reset hs hjl _ _ (Shp.refl w) h.frame (fun _ _ _ _ _ _ hu => hu) ?_ ?_ ?_ ?_ ?_ ?_ ?_ (by simp [Cell.root])
  · intro pl hr e1 e2 sz es he
    have hf := hfrontL pl hr e1 e2
    rw [node_setC hs hjl, if_pos ⟨e1, e2⟩] at he
    simp only at he
    obtain ⟨g1, g2⟩ := PV.getR_setR_other z ((i, k) :: q) x hsome pl.q hf
    cases hz : z.getR pl.q with
    | none => rw [g2 hz] at he; simp at he
    | some p =>
      obtain ⟨y', a1, a2, -⟩ := g1 p hz
      rw [a1] at he
      simp only [Option.some.injEq] at he
      subst he
      cases p <;> simp only [sameTop, reduceCtorEq] at a2
      obtain ⟨rfl, rfl, h3, -⟩ := a2
      refine ⟨_, by simp [node, e1, e2, hs, hj, hz]; rfl, by omega, ?_⟩
      rw [Lay.upd_none _ _ _ hf]
      simp [Env.at, e1, e2]
  · intro pl hr e1 e2 i2 k2 q2 hq hk
    have hf : front ((i, k) :: q) q2 = none := by
      cases hf : front ((i, k) :: q) q2 with
      | none => rfl
      | some r =>
        have e := front_some hf
        exact (hP pl _ _ hr hq ⟨e1, e2, by rw [e]; exact endsIn_append r ((i, k) :: q)⟩).elim
    refine ⟨?_, by rw [Lay.upd_none _ _ _ hf]⟩
    unfold ptrOk at hk ⊢
    simp only [hq] at hk ⊢
    rw [node_setC hs hjl, if_pos ⟨e1, e2⟩] at hk
    simp only [node, e1, e2, hs, hj, Option.bind_some]
    simp only [hq] at hk ⊢
    by_cases hne : (i2, k2) :: q2 = (i, k) :: q
    · rw [hne]; exact hsome
    · have hf2 := front_cons_none hf hne
      obtain ⟨g1, g2⟩ := PV.getR_setR_other z ((i, k) :: q) x hsome _ hf2
      cases hz : z.getR ((i2, k2) :: q2) with
      | none => rw [g2 hz] at hk; simp at hk
      | some p => rfl
  · intro y hy
    simp only [Cell.p.injEq] at hy
    subst hy
    exact ⟨vz, hset⟩
  · intro y hy id a hne hf ha
    simp only [Cell.p.injEq] at hy
    subst hy
    rcases hfp a ha with h1 | h1
    · exact h.disj id (d, some j) a hne hf (hfz a h1)
    · exact hdis id a hf h1
  · intro y hy a ha
    simp only [Cell.p.injEq] at hy
    subst hy
    rcases hfp a ha with h1 | h1
    · exact h.mine _ a (hfz a h1)
    · exact hm a h1
  · intro v hveq u' hu'
    subst hveq
    have := slotVal_cellIn hv hj hu'
    simp only [cellVal] at this ⊢
    rw [Env.setA_same]
    have hf : front ((i, k) :: q) [] = none := by simp [front]
    rw [Lay.upd_none _ _ _ hf]
    obtain ⟨g1, -⟩ := PV.getR_setR_other z ((i, k) :: q) x hsome [] hf
    obtain ⟨y', a1, a2, -⟩ := g1 z rfl
    simp only [PV.getR, Option.some.injEq] at a1
    rw [a1]
    exact pvVal_sameTop a2 this
  · intro hb
    simp only [slotVal, hb] at hv
    obtain ⟨⟨u, hu, -⟩, -⟩ := hv.2 j _ hj
    exact ⟨u, hu⟩

/-- What is let go keeps its shape and its cells. -/
theorem Sim.owned (h : Sim w0 M E σ ts w) {s j : Nat} {sl : Slot} {x : PV} (hs : get σ s = some sl) (hj : sl.cs[j]? = some (.p x)) :
    ∃ u, Own w x u (E.A s j) ∧ (∀ id a, fpOf E (put σ s (sl.setC j .dead)) id a → Fp x (E.A s j) a → False) ∧ ∀ a, Fp x (E.A s j) a → M a := by
  obtain ⟨u, hu⟩ := h.own s sl j x hs hj
  have hjl : j < sl.cs.length := (List.getElem?_eq_some_iff.1 hj).1
  refine ⟨u, hu, ?_, fun a ha => h.mine (s, some j) a ⟨sl, x, hs, hj, ha⟩⟩
  rintro ⟨r, z⟩ a hf ha
  by_cases e : s = r
  · subst e
    cases z with
    | none =>
      obtain ⟨x', h1, h2, h3⟩ := hf
      rw [get_put_same] at h1
      simp only [Option.some.injEq] at h1
      subst h1
      exact h.disj (s, none) (s, some j) a (by simp) ⟨sl, hs, h2, by simpa [Slot.setC] using h3⟩ ⟨sl, x, hs, hj, ha⟩
    | some i =>
      obtain ⟨x', y, h1, h2, h3⟩ := hf
      rw [get_put_same] at h1
      simp only [Option.some.injEq] at h1
      subst h1
      rw [get_setC _ hjl] at h2
      split at h2
      · simp at h2
      · rename_i hne
        exact h.disj (s, some i) (s, some j) a (by simp; omega) ⟨sl, y, hs, h2, h3⟩ ⟨sl, x, hs, hj, ha⟩
  · rw [fpOf_put_ne E σ _ e] at hf
    exact h.disj (r, z) (s, some j) a (by simp; omega) hf ⟨sl, x, hs, hj, ha⟩

end
end Go.Tq
/- New slots: what is owned moves in, cell by cell; boxes. -/
namespace Go.Tq
open Go.RowKit

/-- An owned cell (s, j) moves to (d, i), where its header stands already. -/
def mv1 (d : Nat) (m : Nat × Nat × Nat) (σ : State) : Option State := match m with
  | (s, j, i) => match get σ s with
    | some sl => match sl.cs[j]? with
      | some (.p x) =>
        let σ2 := mapC (Cell.cutN d i []) (put σ s (sl.setC j .dead))
        match get σ2 d with
        | some sd => if s ≠ d ∧ i < sd.cs.length then some (put σ2 d (sd.setC i (.p x))) else none
        | none => none
      | _ => none
    | none => none

def mvAll (d : Nat) : List (Nat × Nat × Nat) → State → Option State
  | [], σ => some σ
  | m :: l, σ => match mv1 d m σ with
    | some σ' => mvAll d l σ'
    | none => none

theorem endsIn_nil (l : List Nat) : endsIn [] l = true := by simp [endsIn]

section
variable {w w0 : World} {M : MN} {σ : State} {E : Env} {ts : Array Value}

/-- The header of the cell (s, j) stands at the cell i of slot d. -/
def Stands (w : World) (σ : State) (E : Env) (ts : Array Value) (d : Nat) (m : Nat × Nat × Nat) : Prop :=
  ∀ sl x sd, get σ m.1 = some sl → sl.cs[m.2.1]? = some (.p x) → get σ d = some sd → ∀ u, cellIn E w d sd (ts.getD d (.tuple #[])) m.2.2 u → pvVal (E.A m.1 m.2.1 []) x u

theorem cellIn_shape {s : Nat} {sl sl' : Slot} {v u : Value} {i : Nat} (e : sl'.sh = sl.sh) (h : cellIn E w s sl' v i u) : cellIn E w s sl v i u := by
  unfold cellIn at h ⊢
  rw [e] at h
  exact h

theorem cellIn_env {E' : Env} {s : Nat} {sl : Slot} {v u : Value} {i : Nat} (e : E'.B = E.B) (h : cellIn E' w s sl v i u) : cellIn E w s sl v i u := by
  unfold cellIn at h ⊢
  have : E'.bcell s i = E.bcell s i := by simp [Env.bcell, e]
  rw [this] at h
  exact h

theorem Sim.mv1 (h : Sim w0 M E σ ts w) {d : Nat} {m : Nat × Nat × Nat} {σ' : State} (hm : mv1 d m σ = some σ') (hst : Stands w σ E ts d m) :
    ∃ E', Sim w0 M E' σ' ts w ∧ E'.B = E.B ∧ (∀ s j, s ≠ d → E'.A s j = E.A s j) ∧
      ∀ s sl (j : Nat) x, s ≠ d → get σ' s = some sl → sl.cs[j]? = some (.p x) → ∃ sl0, get σ s = some sl0 ∧ sl0.cs[j]? = some (.p x) := by
  obtain ⟨s, j, i⟩ := m
  simp only [Tq.mv1] at hm
  split at hm
  · rename_i sl hs
    split at hm
    · rename_i x hj
      split at hm
      · rename_i sd hd
        split at hm
        · rename_i hc
          obtain ⟨hne, hi⟩ := hc
          simp only [Option.some.injEq] at hm
          subst hm
          have hjl : j < sl.cs.length := (List.getElem?_eq_some_iff.1 hj).1
          obtain ⟨u, o1, o2, o3⟩ := h.owned hs hj
          have h1 := (h.drop hs hjl).mapC (cuts_cutN d i [])
          have hd0 : ∃ sd0, get σ d = some sd0 ∧ sd0.sh = sd.sh := by
            rw [get_mapC, get_put_ne σ _ hne] at hd
            simp only [Option.map_eq_some_iff] at hd
            obtain ⟨sd0, g1, rfl⟩ := hd
            exact ⟨sd0, g1, rfl⟩
          obtain ⟨sd0, g1, g2⟩ := hd0
          refine ⟨_, h1.reviveB hd hi o1 (fun id a _ hf ha => o2 id a ((fpOf_mapC (cuts_cutN d i []) E _ id a).1 hf) ha) o3 ?_ ?_ ?_, rfl, fun s' j' hs' => Env.setA_ne E _ (fun e => hs' e.1), ?_⟩
          · intro pl hr hc
            exact refL_cutN hr ⟨hc.1, hc.2, endsIn_nil _⟩
          · intro pl hr e1 e2
            cases hq : pl.q with
            | nil => rfl
            | cons a q => exact (refP_cutN hr hq ⟨e1, e2, endsIn_nil _⟩).elim
          · intro u' hu'
            exact hst sl x sd0 hs hj g1 u' (cellIn_shape g2.symm hu')
          · intro s1 sl1 j1 x1 hs1 hg hx1
            rw [get_put_ne _ _ (fun e => hs1 e.symm), get_mapC] at hg
            simp only [Option.map_eq_some_iff] at hg
            obtain ⟨sl2, g3, rfl⟩ := hg
            simp only [List.getElem?_map, Option.map_eq_some_iff] at hx1
            obtain ⟨c, g4, g5⟩ := hx1
            have g6 := (cuts_cutN d i []).p.1 g5
            subst g6
            by_cases e : s = s1
            · subst e
              rw [get_put_same] at g3
              simp only [Option.some.injEq] at g3
              subst g3
              rw [get_setC _ hjl] at g4
              split at g4
              · simp at g4
              · exact ⟨sl, hs, g4⟩
            · rw [get_put_ne σ _ e] at g3
              exact ⟨sl2, g3, g4⟩
        · simp at hm
      · simp at hm
    · simp at hm
  · simp at hm

theorem mv1_shape {d : Nat} {m : Nat × Nat × Nat} {σ' : State} (hm : mv1 d m σ = some σ') {sd : Slot} (hd : get σ' d = some sd) : ∃ sd0, get σ d = some sd0 ∧ sd0.sh = sd.sh := by
  obtain ⟨s, j, i⟩ := m
  simp only [Tq.mv1] at hm
  split at hm
  · rename_i sl hs
    split at hm
    · rename_i x hj
      split at hm
      · rename_i sd1 hd1
        split at hm
        · rename_i hc
          simp only [Option.some.injEq] at hm
          subst hm
          rw [get_put_same] at hd
          simp only [Option.some.injEq] at hd
          subst hd
          rw [get_mapC, get_put_ne σ _ hc.1] at hd1
          simp only [Option.map_eq_some_iff] at hd1
          obtain ⟨sd0, g1, rfl⟩ := hd1
          exact ⟨sd0, g1, rfl⟩
        · simp at hm
      · simp at hm
    · simp at hm
  · simp at hm

theorem Sim.mvAll {d : Nat} {l : List (Nat × Nat × Nat)} : ∀ {σ : State} {E : Env} {σ' : State}, Sim w0 M E σ ts w → mvAll d l σ = some σ' → (∀ m, m ∈ l → m.1 ≠ d ∧ Stands w σ E ts d m) → ∃ E', Sim w0 M E' σ' ts w := by
  induction l with
  | nil =>
    intro σ E σ' h hm _
    simp only [Tq.mvAll, Option.some.injEq] at hm
    subst hm
    exact ⟨E, h⟩
  | cons m l ih =>
    intro σ E σ' h hm hst
    simp only [Tq.mvAll] at hm
    split at hm
    · rename_i σ1 h1
      obtain ⟨E1, g1, g2, g3, g4⟩ := h.mv1 h1 (hst m (by simp)).2
      refine ih g1 hm fun m' hm' => ?_
      obtain ⟨f1, f2⟩ := hst m' (by simp [hm'])
      refine ⟨f1, ?_⟩
      intro sl x sd hs hj hd u hu
      obtain ⟨sl0, e1, e2⟩ := g4 _ _ _ _ f1 hs hj
      obtain ⟨sd0, e3, e4⟩ := mv1_shape h1 hd
      rw [g3 _ _ f1]
      exact f2 sl0 x sd0 e1 e2 e3 u (cellIn_shape e4.symm (cellIn_env g2 hu))
    · simp at hm

/-- A new box: a block of its own. -/
theorem Sim.putBox (h : Sim w0 M E σ ts w) {d : Nat} (hd : d < ts.size) (hcl : Clean d σ) {cs : List Cell} {arr : Array Value} {e : TypeId} (_hsz : arr.size = cs.length)
    (hv : ∀ (j : Nat) c, cs[j]? = some c → ∃ u, arr[j]? = some u ∧ refVal w0 M σ E c u) (hr : RootsOk σ cs) (hrd : ∀ (j : Nat) c, cs[j]? = some c → c.root ≠ some d) (hz : w0.heap.size ≤ w.heap.size) :
    Sim w0 M ⟨fun s => if s = d then (w.heap.size, 0) else E.B s, E.A⟩ (put σ d ⟨.box, cs, false⟩) (ts.setIfInBounds d (.pointer (some ⟨w.heap.size, 0, none⟩))) (w.alloc (.cells arr e)) := by
  have hfb : ∀ a : Addr, a.block = w.heap.size → ∀ id, id.1 ≠ d → ¬ fpOf E σ id a := by
    intro a ha id hid hf
    -- what is owned lies in a block that is there
    obtain ⟨s, z⟩ := id
    cases z with
    | none =>
      obtain ⟨sl, h1, h2, h3, h4, h5⟩ := hf
      obtain ⟨-, hval⟩ := h.slots s sl h1
      simp only [slotVal, h2] at hval
      have hlt : a.off - (E.B s).2 < sl.cs.length := by omega
      obtain ⟨⟨u, hu, -⟩, -⟩ := hval.2 _ _ (List.getElem?_eq_getElem hlt)
      obtain ⟨c, e', fz, g1, -, -⟩ := cell_some_block hu
      have := (Array.getElem?_eq_some_iff.1 g1).1
      simp only [Env.bcell] at this
      omega
    | some j =>
      obtain ⟨sl, x, h1, h2, q, sz, es, h3, h4⟩ := hf
      obtain ⟨u, hown⟩ := h.own s sl j x h1 h2
      obtain ⟨-, -, -, ⟨c, e', fz, g1, -⟩, -⟩ := hown.node q sz es h3
      have := (Array.getElem?_eq_some_iff.1 g1).1
      have := h4.1
      omega
  have hcellnew : ∀ (j : Nat) u, arr[j]? = some u → (w.alloc (.cells arr e)).cell? ⟨w.heap.size, j, none⟩ = some u := by
    intro j u hj
    have : (w.alloc (.cells arr e)).heap[w.heap.size]? = some (Obj.cells arr e (0, 0)) := by
      show (w.heap.push _)[w.heap.size]? = _
      simp
    rw [cell_of_block (a := ⟨w.heap.size, j, none⟩) this rfl]
    exact hj
  have hfz : ∀ j, (w.alloc (.cells arr e)).frozen? ⟨w.heap.size, j, none⟩ = false := by
    intro j
    have : (w.alloc (.cells arr e)).heap[w.heap.size]? = some (Obj.cells arr e (0, 0)) := by
      show (w.heap.push _)[w.heap.size]? = _
      simp
    unfold World.frozen?
    simp only [this]
    simp
  have hflat : FlatCells cs := by
    intro j c hj
    obtain ⟨u, -, hu⟩ := hv j c hj
    exact ⟨hu.1, fun x hx => by subst hx; exact ⟨_, u, hu.2⟩⟩
  have nofp : ∀ (j : Nat) a, ¬ fpOf ⟨fun s => if s = d then (w.heap.size, 0) else E.B s, E.A⟩ (put σ d ⟨.box, cs, false⟩) (d, some j) a := by
    intro j a hfp
    obtain ⟨sl, y, h1, h2, h3⟩ := hfp
    rw [get_put_same] at h1
    simp only [Option.some.injEq] at h1
    subst h1
    obtain ⟨g1, g2⟩ := hflat j _ h2
    obtain ⟨n, u, g3⟩ := g2 y rfl
    exact fp_flat g1 g3 h3
  have hboxfp : ∀ a, fpOf ⟨fun s => if s = d then (w.heap.size, 0) else E.B s, E.A⟩ (put σ d ⟨.box, cs, false⟩) (d, none) a → a.block = w.heap.size := by
    rintro a ⟨sl, h1, h2, h3, -⟩
    simpa using h3
  refine h.upd d _ _ hd (fun s hs => ⟨by simp [hs], rfl⟩) (shp_alloc _ _) (fun _ _ _ _ u hu => cell_alloc hu _) (h.frame.alloc _) ?_ ?_ ?_ ?_ ?_ ?_ ?_ ?_
  · intro s sl' j pl sz lo len hne hs hj hp
    exact (hcl.cl s sl' j _ hs hj (by rw [← hp]; rfl)).elim
  · intro s sl' j pl hne hs hj hp
    exact (hcl.cl s sl' j _ hs hj (by rw [← hp]; rfl)).elim
  · simp only [slotVal, Env.bcell, if_true]
    refine ⟨by simp, fun j c hj => ?_⟩
    obtain ⟨u, g1, g2⟩ := hv j c hj
    refine ⟨⟨u, by simpa using hcellnew j u g1, ?_⟩, by simp⟩
    refine refVal_to g2 (fun pl sz lo ln ex sz' es he => ?_) (fun pl ex hk => ?_)
    · have hne : d ≠ pl.s := fun e => hrd j c hj (by rw [ex, e]; rfl)
      rw [node_put_ne σ _ hne] at he
      exact ⟨es, he, Nat.le_refl _, rfl⟩
    · have hne : d ≠ pl.s := fun e => hrd j c hj (by rw [ex, e]; rfl)
      refine ⟨(ptrOk_put_ne σ _ hne).1 hk, ?_⟩
      unfold Env.addr Env.bcell
      simp [Ne.symm hne]
  · intro j y hj
    obtain ⟨g1, g2⟩ := hflat j _ hj
    obtain ⟨n, u, g3⟩ := g2 y rfl
    exact ⟨u, Own.of_flat g1 (pvVal_flat g1 g3)⟩
  · rintro ⟨s, j⟩ ⟨s', j'⟩ a hne h1 h2 h3 h4
    simp only at h1 h2; subst h1; subst h2
    cases j with
    | some j => exact nofp j a h3
    | none =>
      cases j' with
      | some j' => exact nofp j' a h4
      | none => exact hne rfl
  · rintro ⟨s, j⟩ id' a h1 h2 h3 h4
    simp only at h1; subst h1
    cases j with
    | some j => exact nofp j a h3
    | none => exact hfb a (hboxfp a h3) id' h2 h4
  · rintro ⟨s, j⟩ a h1 h3
    simp only at h1; subst h1
    cases j with
    | some j => exact (nofp j a h3).elim
    | none => exact h.fresh a (by rw [hboxfp a h3]; exact hz)
  · intro j c r hj hc
    have := hr j c r hj hc
    rw [get_put]
    split
    · rfl
    · exact this

end
end Go.Tq
/- A slice of trees, made of its elements. -/
namespace Go.Tq
open Go.RowKit

/-- A slice's layout, out of its node and its elements' layouts. -/
def rowLay (n : Node) (β : Nat → Nat → Lay) : Lay := fun q => match q.getLast? with
  | none => n
  | some (i, k) => β i k q.dropLast

theorem rowLay_nil (n : Node) (β : Nat → Nat → Lay) : rowLay n β [] = n := rfl
theorem rowLay_append (n : Node) (β : Nat → Nat → Lay) (r : Steps) (i k : Nat) : rowLay n β (r ++ [(i, k)]) = β i k r := by
  simp [rowLay]

theorem getR_row (sz : Nat) (es : List (List PV)) (r : Steps) (i k : Nat) : (PV.sl sz false es).getR (r ++ [(i, k)]) = ((es[i]?).bind (·[k]?)).bind (·.getR r) := by
  rw [PV.getR_append]
  simp [PV.getR]

theorem Own.row {w : World} {n : Node} {sz : Nat} {es : List (List PV)} {β : Nat → Nat → Lay} {us : Nat → Nat → Value} (hn : NodeOk w n sz es)
    (hc : ∀ i k cs x, es[i]? = some cs → cs[k]? = some x → w.cell? (n.cell i k) = some (us i k) ∧ Own w x (us i k) (β i k))
    (hd : ∀ i k i' k' cs cs' x x', es[i]? = some cs → cs[k]? = some x → es[i']? = some cs' → cs'[k']? = some x' → (i, k) ≠ (i', k') → ∀ a, Fp x (β i k) a → Fp x' (β i' k') a → False)
    (hx : ∀ i k cs x, es[i]? = some cs → cs[k]? = some x → ∀ a, Fp x (β i k) a → n.ext a → False) : Own w (.sl sz false es) (.slice (some n.base) es.length n.cap) (rowLay n β) := by
  -- what stands at a path that ends in an element
  have at_ : ∀ r i k y, (PV.sl sz false es).getR (r ++ [(i, k)]) = some y → ∃ cs x, es[i]? = some cs ∧ cs[k]? = some x ∧ x.getR r = some y := by
    intro r i k y h
    rw [getR_row] at h
    cases h1 : es[i]? with
    | none => simp [h1] at h
    | some cs =>
      cases h2 : cs[k]? with
      | none => simp [h1, h2] at h
      | some x => exact ⟨cs, x, rfl, h2, by simpa [h1, h2] using h⟩
  refine ⟨rfl, ?_, ?_, ?_⟩
  · intro q i k p hp
    rcases List.eq_nil_or_concat q with rfl | ⟨r, ⟨i', k'⟩, rfl⟩
    · obtain ⟨cs, x, h1, h2, h3⟩ := at_ [] i k p (by simpa using hp)
      simp only [PV.getR, Option.some.injEq] at h3
      subst h3
      obtain ⟨g1, g2⟩ := hc i k cs x h1 h2
      refine ⟨_, by rw [rowLay_nil]; exact g1, ?_⟩
      have := rowLay_append n β [] i k
      rw [List.nil_append] at this
      rw [this]
      exact g2.val
    · rw [List.concat_eq_append] at hp ⊢
      obtain ⟨cs, x, h1, h2, h3⟩ := at_ ((i, k) :: r) i' k' p (by simpa using hp)
      obtain ⟨g1, g2⟩ := hc i' k' cs x h1 h2
      obtain ⟨u, g3, g4⟩ := g2.cell r i k p h3
      refine ⟨u, by rw [rowLay_append]; exact g3, ?_⟩
      rw [← List.cons_append, rowLay_append]
      exact g4
  · intro q sz' es' hq
    rcases List.eq_nil_or_concat q with rfl | ⟨r, ⟨i', k'⟩, rfl⟩
    · simp only [PV.getR, Option.some.injEq, PV.sl.injEq, true_and] at hq
      obtain ⟨rfl, rfl⟩ := hq
      exact hn
    · rw [List.concat_eq_append] at hq ⊢
      obtain ⟨cs, x, h1, h2, h3⟩ := at_ r i' k' _ hq
      rw [rowLay_append]
      exact (hc i' k' cs x h1 h2).2.node r _ _ h3
  · intro q q' sz1 sz2 es1 es2 h1 h2 hne a ha ha'
    rcases List.eq_nil_or_concat q with rfl | ⟨r, ⟨i, k⟩, rfl⟩
    · rcases List.eq_nil_or_concat q' with rfl | ⟨r', ⟨i', k'⟩, rfl⟩
      · exact hne rfl
      · rw [List.concat_eq_append] at h2 ha'
        obtain ⟨cs, x, g1, g2, g3⟩ := at_ r' i' k' _ h2
        rw [rowLay_append] at ha'
        exact hx i' k' cs x g1 g2 a ⟨r', _, _, g3, ha'⟩ ha
    · rw [List.concat_eq_append] at h1 ha
      obtain ⟨cs, x, g1, g2, g3⟩ := at_ r i k _ h1
      rw [rowLay_append] at ha
      rcases List.eq_nil_or_concat q' with rfl | ⟨r', ⟨i', k'⟩, rfl⟩
      · exact hx i k cs x g1 g2 a ⟨r, _, _, g3, ha⟩ ha'
      · rw [List.concat_eq_append] at h2 ha' hne
        obtain ⟨cs', x', g1', g2', g3'⟩ := at_ r' i' k' _ h2
        rw [rowLay_append] at ha'
        by_cases e : (i, k) = (i', k')
        · simp only [Prod.mk.injEq] at e
          obtain ⟨rfl, rfl⟩ := e
          rw [g1] at g1'
          simp only [Option.some.injEq] at g1'
          subst g1'
          rw [g2] at g2'
          simp only [Option.some.injEq] at g2'
          subst g2'
          exact (hc i k cs x g1 g2).2.disj r r' _ _ _ _ g3 g3' (fun e => hne (by rw [List.concat_eq_append, e])) a ha ha'
        · exact hd i k i' k' cs cs' x x' g1 g2 g1' g2' e a ⟨r, _, _, g3, ha⟩ ⟨r', _, _, g3', ha'⟩

theorem fp_row {n : Node} {sz : Nat} {es : List (List PV)} {β : Nat → Nat → Lay} {a : Addr} (h : Fp (.sl sz false es) (rowLay n β) a) :
    n.ext a ∨ ∃ i k cs x, es[i]? = some cs ∧ cs[k]? = some x ∧ Fp x (β i k) a := by
  obtain ⟨q, sz', es', h1, h2⟩ := h
  rcases List.eq_nil_or_concat q with rfl | ⟨r, ⟨i, k⟩, rfl⟩
  · exact .inl h2
  · rw [List.concat_eq_append] at h1 h2
    rw [rowLay_append] at h2
    rw [getR_row] at h1
    cases g1 : es[i]? with
    | none => simp [g1] at h1
    | some cs =>
      cases g2 : cs[k]? with
      | none => simp [g1, g2] at h1
      | some x => exact .inr ⟨i, k, cs, x, g1, g2, r, sz', es', by simpa [g1, g2] using h1, h2⟩

/-- The elements of an owned slice. -/
theorem Own.elem {w : World} {sz : Nat} {es : List (List PV)} {v : Value} {α : Lay} (h : Own w (.sl sz false es) v α) {i k : Nat} {cs : List PV} {x : PV} (h1 : es[i]? = some cs) (h2 : cs[k]? = some x) :
    ∃ u, w.cell? ((α []).cell i k) = some u ∧ Own w x u (fun r => α (r ++ [(i, k)])) := by
  have hp : (PV.sl sz false es).getR [(i, k)] = some x := by simp [PV.getR, h1, h2]
  obtain ⟨u, g1, g2⟩ := h.cell [] i k x hp
  exact ⟨u, g1, h.sub hp g2⟩

theorem fp_elem {sz : Nat} {es : List (List PV)} {α : Lay} {i k : Nat} {cs : List PV} {x : PV} (h1 : es[i]? = some cs) (h2 : cs[k]? = some x) {a : Addr} (ha : Fp x (fun r => α (r ++ [(i, k)])) a) : Fp (.sl sz false es) α a :=
  fp_sub (q := [(i, k)]) (by simp [PV.getR, h1, h2]) ha

theorem fp_top {sz : Nat} {es : List (List PV)} {α : Lay} {a : Addr} (ha : (α []).ext a) : Fp (.sl sz false es) α a := ⟨[], sz, es, rfl, ha⟩

theorem Own.elem_disj {w : World} {sz : Nat} {es : List (List PV)} {v : Value} {α : Lay} (h : Own w (.sl sz false es) v α) {i k i' k' : Nat} {cs cs' : List PV} {x x' : PV} (h1 : es[i]? = some cs) (h2 : cs[k]? = some x) (h1' : es[i']? = some cs') (h2' : cs'[k']? = some x')
    (hne : (i, k) ≠ (i', k')) {a : Addr} (ha : Fp x (fun r => α (r ++ [(i, k)])) a) (ha' : Fp x' (fun r => α (r ++ [(i', k')])) a) : False := by
  obtain ⟨r, sz1, es1, g1, g2⟩ := ha
  obtain ⟨r', sz2, es2, g3, g4⟩ := ha'
  refine h.disj (r ++ [(i, k)]) (r' ++ [(i', k')]) sz1 sz2 es1 es2 (by rw [getR_row]; simp [h1, h2, g1]) (by rw [getR_row]; simp [h1', h2', g3]) (fun e => ?_) a g2 g4
  have := congrArg List.getLast? e
  simp at this
  exact hne (by simp [this])

theorem Own.elem_top {w : World} {sz : Nat} {es : List (List PV)} {v : Value} {α : Lay} (h : Own w (.sl sz false es) v α) {i k : Nat} {cs : List PV} {x : PV} (h1 : es[i]? = some cs) (h2 : cs[k]? = some x) {a : Addr} (ha : Fp x (fun r => α (r ++ [(i, k)])) a) (ha' : (α []).ext a) : False := by
  obtain ⟨r, sz1, es1, g1, g2⟩ := ha
  exact h.disj (r ++ [(i, k)]) [] sz1 sz es1 es (by rw [getR_row]; simp [h1, h2, g1]) rfl (by simp) a g2 ha'

section
variable {w w0 : World} {M : MN} {σ : State} {E : Env} {ts : Array Value}

/-- What is owned lies in blocks that are there. -/
theorem Sim.fp_lt (h : Sim w0 M E σ ts w) {id : Nat × Option Nat} {a : Addr} (hf : fpOf E σ id a) : a.block < w.heap.size := by
  obtain ⟨s, z⟩ := id
  cases z with
  | none =>
    obtain ⟨sl, h1, h2, h3, h4, h5⟩ := hf
    obtain ⟨-, hval⟩ := h.slots s sl h1
    simp only [slotVal, h2] at hval
    have hlt : a.off - (E.B s).2 < sl.cs.length := by omega
    obtain ⟨⟨u, hu, -⟩, -⟩ := hval.2 _ _ (List.getElem?_eq_getElem hlt)
    obtain ⟨c, e', fz, g1, -, -⟩ := cell_some_block hu
    have := (Array.getElem?_eq_some_iff.1 g1).1
    simp only [Env.bcell] at this
    omega
  | some j =>
    obtain ⟨sl, x, h1, h2, q, sz, es, h3, h4⟩ := hf
    obtain ⟨u, hown⟩ := h.own s sl j x h1 h2
    obtain ⟨-, -, -, ⟨c, e', fz, g1, -⟩, -⟩ := hown.node q sz es h3
    have := (Array.getElem?_eq_some_iff.1 g1).1
    have := h4.1
    omega

/-- A slot that holds one owned slice. -/
theorem Sim.putOwn (h : Sim w0 M E σ ts w) {w' : World} {d : Nat} (hd : d < ts.size) (hcl : Clean d σ) {x : PV} {v : Value} {α : Lay} (hx : Own w' x v α) (hshp : Shp w w') (hfr : Frame w0 M w')
    (hw : ∀ id a, id.1 ≠ d → fpOf E σ id a → ∀ u, w.cell? a = some u → w'.cell? a = some u) (hdis : ∀ id a, id.1 ≠ d → fpOf E σ id a → Fp x α a → False) (hm : ∀ a, Fp x α a → M a) :
    Sim w0 M (E.setA d 0 α) (put σ d ⟨.one, [.p x], false⟩) (ts.setIfInBounds d v) w' := by
  have hfp : ∀ z a, fpOf (E.setA d 0 α) (put σ d ⟨.one, [.p x], false⟩) (d, z) a → z = some 0 ∧ Fp x α a := by
    intro z a hf
    cases z with
    | none =>
      obtain ⟨sl, h1, h2, -⟩ := hf
      rw [get_put_same] at h1
      simp only [Option.some.injEq] at h1
      subst h1
      simp at h2
    | some j =>
      obtain ⟨sl, y, h1, h2, h3⟩ := hf
      rw [get_put_same] at h1
      simp only [Option.some.injEq] at h1
      subst h1
      cases j with
      | zero =>
        simp only [List.getElem?_cons_zero, Option.some.injEq, Cell.p.injEq] at h2
        subst h2
        rw [Env.setA_same] at h3
        exact ⟨rfl, h3⟩
      | succ j => simp at h2
  refine h.upd d _ _ hd (fun s hs => ⟨rfl, funext fun i => Env.setA_ne E α (fun e => hs e.1)⟩) hshp hw hfr ?_ ?_ ?_ ?_ ?_ ?_ ?_ ?_
  · intro s sl' j pl sz lo len hne hs hj hp
    exact (hcl.cl s sl' j _ hs hj (by rw [← hp]; rfl)).elim
  · intro s sl' j pl hne hs hj hp
    exact (hcl.cl s sl' j _ hs hj (by rw [← hp]; rfl)).elim
  · refine ⟨_, rfl, ?_⟩
    simp only [cellVal]
    rw [Env.setA_same]
    exact hx.val
  · intro j y hj
    cases j with
    | zero =>
      simp only [List.getElem?_cons_zero, Option.some.injEq, Cell.p.injEq] at hj
      subst hj
      rw [Env.setA_same]
      exact ⟨v, hx⟩
    | succ j => simp at hj
  · rintro ⟨s, j⟩ ⟨s', j'⟩ a hne h1 h2 h3 h4
    simp only at h1 h2; subst h1; subst h2
    exact hne (by rw [(hfp j a h3).1, (hfp j' a h4).1])
  · rintro ⟨s, j⟩ id' a h1 h2 h3 h4
    simp only at h1; subst h1
    exact hdis id' a h2 h4 (hfp j a h3).2
  · rintro ⟨s, j⟩ a h1 h3
    simp only at h1; subst h1
    exact hm a (hfp j a h3).2
  · intro j c r hj hc
    cases j with
    | zero => simp only [List.getElem?_cons_zero, Option.some.injEq] at hj; subst hj; simp [Cell.root] at hc
    | succ j => simp at hj

/-- A new block that holds a row of elements that own nothing. -/
theorem own_new {sz cap : Nat} {es : List (List PV)} {arr : Array Value} {e : TypeId} (hlen : es.length ≤ cap) (hrow : ∀ cs, cs ∈ es → cs.length = sz) (hsz : cap * sz ≤ arr.size)
    (hv : ∀ i k cs x, es[i]? = some cs → cs[k]? = some x → ∃ u, arr[i * sz + k]? = some u ∧ x.flat = true ∧ pvVal ⟨0, 0, 0, 0⟩ x u) :
    Own (w.alloc (.cells arr e)) (.sl sz false es) (.slice (some ⟨w.heap.size, 0, none⟩) es.length cap) (rowLay ⟨w.heap.size, 0, cap, sz⟩ (fun _ _ _ => ⟨0, 0, 0, 0⟩)) ∧
    ∀ a, Fp (.sl sz false es) (rowLay ⟨w.heap.size, 0, cap, sz⟩ (fun _ _ _ => ⟨0, 0, 0, 0⟩)) a → a.block = w.heap.size := by
  have hb : (w.alloc (.cells arr e)).heap[w.heap.size]? = some (Obj.cells arr e (0, 0)) := by
    show (w.heap.push _)[w.heap.size]? = _
    simp
  have hsome : ∀ i k cs x, es[i]? = some cs → cs[k]? = some x → ∃ u, arr[i * sz + k]? = some u ∧ (w.alloc (.cells arr e)).cell? ((⟨w.heap.size, 0, cap, sz⟩ : Node).cell i k) = some u ∧ x.flat = true ∧ pvVal ⟨0, 0, 0, 0⟩ x u := by
    intro i k cs x h1 h2
    obtain ⟨u, g1, g2, g3⟩ := hv i k cs x h1 h2
    refine ⟨u, g1, ?_, g2, g3⟩
    rw [cell_of_block (a := (⟨w.heap.size, 0, cap, sz⟩ : Node).cell i k) hb rfl]
    simpa [Node.cell] using g1
  refine ⟨Own.row (n := ⟨w.heap.size, 0, cap, sz⟩) (us := fun i k => arr.getD (i * sz + k) default) ⟨rfl, hlen, hrow, ⟨arr, e, (0, 0), hb, by simpa using hsz⟩, fun a ha => ?_⟩ ?_ ?_ ?_, fun a ha => ?_⟩
  · unfold World.frozen?
    rw [ha.1, hb]
    simp
  · intro i k cs x h1 h2
    obtain ⟨u, g1, g2, g3, g4⟩ := hsome i k cs x h1 h2
    have : arr.getD (i * sz + k) default = u := by simp [Array.getD_eq_getD_getElem?, g1]
    rw [this]
    exact ⟨g2, Own.of_flat g3 g4⟩
  · intro i k i' k' cs cs' x x' h1 h2 h3 h4 hne a ha
    obtain ⟨u, g1, g2, g3, g4⟩ := hsome i k cs x h1 h2
    exact (fp_flat g3 g4 ha).elim
  · intro i k cs x h1 h2 a ha
    obtain ⟨u, g1, g2, g3, g4⟩ := hsome i k cs x h1 h2
    exact (fp_flat g3 g4 ha).elim
  · rcases fp_row ha with h1 | ⟨i, k, cs, x, h1, h2, h3⟩
    · exact h1.1
    · obtain ⟨u, g1, g2, g3, g4⟩ := hsome i k cs x h1 h2
      exact (fp_flat g3 g4 h3).elim

end
end Go.Tq
/- Several cells written one behind the other. -/
namespace Go.Tq
open Go.RowKit

def putCells (b : Nat) : Nat → List Value → World → World
  | _, [], w => w
  | o, v :: t, w => putCells b (o + 1) t (w.setCell ⟨b, o, none⟩ v)

theorem shp_putCells (b : Nat) (vs : List Value) : ∀ (o : Nat) (w : World), Shp w (putCells b o vs w) := by
  induction vs with
  | nil => exact fun o w => Shp.refl w
  | cons v t ih => exact fun o w => (shp_setCell w _ v).trans (ih (o + 1) _)

theorem frame_putCells {w0 : World} {M : MN} (b : Nat) (vs : List Value) : ∀ (o : Nat) (w : World), Frame w0 M w → (∀ j, j < vs.length → M ⟨b, o + j, none⟩) → Frame w0 M (putCells b o vs w) := by
  induction vs with
  | nil => exact fun o w h _ => h
  | cons v t ih =>
    intro o w h hm
    refine ih (o + 1) _ (h.setCell (by simpa using hm 0 (by simp)) v) fun j hj => ?_
    have := hm (j + 1) (by simpa using hj)
    rwa [show o + (j + 1) = o + 1 + j by omega] at this

theorem putCells_other (b : Nat) (vs : List Value) : ∀ (o : Nat) (w : World) (a : Addr) (u : Value), (∀ j, j < vs.length → a ≠ ⟨b, o + j, none⟩) → w.cell? a = some u → (putCells b o vs w).cell? a = some u := by
  induction vs with
  | nil => exact fun o w a u _ h => h
  | cons v t ih =>
    intro o w a u hne h
    refine ih (o + 1) _ a u (fun j hj => ?_) (cell_setCell_ne (by simpa using hne 0 (by simp)) h)
    have := hne (j + 1) (by simpa using hj)
    rwa [show o + (j + 1) = o + 1 + j by omega] at this

theorem putCells_at (b : Nat) (vs : List Value) : ∀ (o : Nat) (w : World), (∀ j, j < vs.length → ∃ u, w.cell? ⟨b, o + j, none⟩ = some u) → ∀ (j : Nat) v, vs[j]? = some v → (putCells b o vs w).cell? ⟨b, o + j, none⟩ = some v := by
  induction vs with
  | nil => intro o w _ j v h; simp at h
  | cons x t ih =>
    intro o w hc j v hj
    obtain ⟨u0, hu0⟩ := hc 0 (by simp)
    cases j with
    | zero =>
      simp only [List.getElem?_cons_zero, Option.some.injEq] at hj
      subst hj
      refine putCells_other b t (o + 1) _ _ _ (fun j hj e => ?_) (cell_setCell_same hu0)
      simp only [Addr.mk.injEq, true_and, and_true] at e
      omega
    | succ j =>
      simp only [List.getElem?_cons_succ] at hj
      have := ih (o + 1) (w.setCell ⟨b, o, none⟩ x) (fun j hj => ?_) j v hj
      · rwa [show o + 1 + j = o + (j + 1) by omega] at this
      · obtain ⟨u, hu⟩ := hc (j + 1) (by simpa using hj)
        rw [show o + (j + 1) = o + 1 + j by omega] at hu
        refine ⟨u, cell_setCell_ne (fun e => ?_) hu⟩
        simp only [Addr.mk.injEq, true_and, and_true] at e
        omega

theorem run_storeCells_put {P : Program} (b o : Nat) (vs : List Value) : ∀ (i : Nat) (w : World), (∀ j, j < vs.length → ∃ u, w.cell? ⟨b, o + i + j, none⟩ = some u) → (∀ j, j < vs.length → w.frozen? ⟨b, o + i + j, none⟩ = false) → (∀ v, v ∈ vs → v.oneCell' = true) →
    (storeCells ⟨b, o, none⟩ vs i).run P w = .ok () (putCells b (o + i) vs w) := by
  induction vs with
  | nil => intro i w _ _ _; simp [storeCells, putCells]
  | cons v t ih =>
    intro i w hc hf h1
    obtain ⟨u0, hu0⟩ := hc 0 (by simp)
    have hf0 := hf 0 (by simp)
    simp only [Nat.add_zero] at hu0 hf0
    have hst : (store ((⟨b, o, none⟩ : Addr).add i) v).run P w = .ok () (w.setCell ⟨b, o + i, none⟩ v) := by
      rw [Addr.add_lit, run_store P w _ v _ (h1 v (by simp)), hu0]
      simp [hf0]
    simp only [storeCells, Sem.run_bind, hst, Result.andThen]
    rw [ih (i + 1) _ (fun j hj => ?_) (fun j hj => ?_) (fun v hv => h1 v (by simp [hv]))]
    · rfl
    · obtain ⟨u, hu⟩ := hc (j + 1) (by simpa using hj)
      rw [show o + i + (j + 1) = o + (i + 1) + j by omega] at hu
      refine ⟨u, cell_setCell_ne (fun e => ?_) hu⟩
      simp only [Addr.mk.injEq, true_and, and_true] at e
      omega
    · have := hf (j + 1) (by simpa using hj)
      rw [show o + i + (j + 1) = o + (i + 1) + j by omega] at this
      obtain ⟨u, hu⟩ := hc (j + 1) (by simpa using hj)
      rw [show o + i + (j + 1) = o + (i + 1) + j by omega] at hu
      obtain ⟨c, e, fz, g1, -, -⟩ := cell_some_block hu
      rw [(shp_setCell w _ v).frozen g1]
      exact this

end Go.Tq
/- Steps that make a new content for a slot: flat results, moved slots, boxes, aggregates. -/
namespace Go.Tq
open Go.RowKit

/-- A step that the machine makes: the new state is met. -/
def Good (P : Program) (a : Act) (o : Oper) (w w0 : World) (M : MN) (σ' : State) : Prop :=
  (∃ v w', (execOp a.eval o).run P w = .ok (.value v) w' ∧ ∃ E', Sim w0 M E' σ' (a.put o.dst v).tmps w') ∨
  (∃ w', (execOp a.eval o).run P w = .ok .skip w' ∧ ∃ E', Sim w0 M E' σ' (a.put o.dst undef).tmps w')

theorem put_tmps (a : Act) {o : Oper} {d : Nat} (hd : o.dst = some d) (v : Value) : (a.put o.dst v).tmps = a.tmps.setIfInBounds d v := by
  rw [hd]; rfl

/-- What stands in place of an owned cell till it moves in. -/
def ph : Cell → Cell
  | .p (.sl _ false _) => .dead
  | c => c

/-- The places of the owned cells. -/
def owns : Nat → List Cell → List Nat
  | _, [] => []
  | j, .p (.sl _ false _) :: t => j :: owns (j + 1) t
  | j, _ :: t => owns (j + 1) t

theorem mem_owns {l : List Cell} {j i : Nat} (h : i ∈ owns j l) : ∃ k sz es, i = j + k ∧ l[k]? = some (.p (.sl sz false es)) := by
  induction l generalizing j with
  | nil => simp [owns] at h
  | cons c t ih =>
    unfold owns at h
    split at h
    · simp at *
    · rename_i sz es t' e
      simp only [List.cons.injEq] at e
      obtain ⟨rfl, rfl⟩ := e
      simp only [List.mem_cons] at h
      rcases h with rfl | h
      · exact ⟨0, sz, es, rfl, rfl⟩
      · obtain ⟨k, sz', es', e1, e2⟩ := ih h
        exact ⟨k + 1, sz', es', by omega, by simpa using e2⟩
    · rename_i t' _ e
      simp only [List.cons.injEq] at e
      obtain ⟨rfl, rfl⟩ := e
      obtain ⟨k, sz', es', e1, e2⟩ := ih h
      exact ⟨k + 1, sz', es', by omega, by simpa using e2⟩

theorem ph_flat (c : Cell) : (ph c).flat = true := by
  unfold ph
  split
  · rfl
  · rename_i hn
    cases c with
    | p x =>
      cases x <;> try rfl
      rename_i sz nl es
      cases nl
      · exact (hn sz es rfl).elim
      · rfl
    | _ => rfl

/-- The value of one of a value's cells. -/
def valIn (sh : Shape) (v : Value) (j : Nat) (u : Value) : Prop := match sh with
  | .one => v = u
  | .agg => ∃ arr, v = .agg arr ∧ arr[j]? = some u
  | _ => False

section
variable {P : Program} {a : Act} {o : Oper} {w w0 : World} {M : MN} {σ : State} {E : Env} {ts : Array Value}

/-- A slot's content as it may move: the cells that own nothing, read; the others' headers. -/
theorem slot_raw (h : Sim w0 M E σ ts w) {s : Nat} {sl : Slot} (hs : get σ s = some sl) (hsh : sl.sh = .one ∨ sl.sh = .agg) :
    ValOk w0 M σ E ⟨sl.sh, sl.cs.map ph⟩ (ts.getD s (.tuple #[])) ∧ RootsOk σ (sl.cs.map ph) ∧
      ∀ (j : Nat) x u, sl.cs[j]? = some (.p x) → valIn sl.sh (ts.getD s (.tuple #[])) j u → pvVal (E.A s j []) x u := by
  obtain ⟨hsz, hv⟩ := h.slots s sl hs
  have hph : ∀ j c u, cellVal w0 M σ E s j c u → refVal w0 M σ E (ph c) u := by
    intro j c u hc
    refine ⟨ph_flat c, ?_⟩
    unfold ph
    split
    · trivial
    · rename_i hn
      cases c with
      | p x =>
        refine pvVal_flat ?_ hc
        cases x <;> try rfl
        rename_i sz nl es
        cases nl
        · exact (hn sz es rfl).elim
        · rfl
      | _ => exact hc
  refine ⟨?_, ?_, ?_⟩
  · unfold slotVal at hv
    unfold ValOk
    rcases hsh with e | e
    · simp only [e] at hv ⊢
      obtain ⟨c, h1, h2⟩ := hv
      exact ⟨ph c, by simp [h1], hph _ _ _ h2⟩
    · simp only [e] at hv ⊢
      obtain ⟨arr, h1, h2, h3⟩ := hv
      refine ⟨arr, h1, by simpa using h2, fun j c hj => ?_⟩
      simp only [List.getElem?_map, Option.map_eq_some_iff] at hj
      obtain ⟨c0, h6, rfl⟩ := hj
      obtain ⟨u, h4, h5⟩ := h3 j c0 h6
      exact ⟨u, h4, hph _ _ _ h5⟩
  · intro j c r hj hc
    simp only [List.getElem?_map, Option.map_eq_some_iff] at hj
    obtain ⟨c0, h6, rfl⟩ := hj
    refine h.refs s sl j c0 r hs h6 ?_
    unfold ph at hc
    split at hc
    · simp [Cell.root] at hc
    · exact hc
  · intro j x u hj hu
    have : cellVal w0 M σ E s j (.p x) u := by
      refine slotVal_cellIn hv hj ?_
      unfold valIn at hu
      unfold cellIn
      rcases hsh with e | e
      · simp only [e] at hu ⊢; exact hu
      · simp only [e] at hu ⊢; exact hu
    exact this

/-! ### A flat result -/

theorem good_flat (h : Sim w0 M E σ a.tmps w) {d : Nat} (hdst : o.dst = some d) (hd : d < a.tmps.size) {r : Val} (hg : Gives P a o w w0 M σ E r) : Good P a o w w0 M (putK d ⟨r.sh, r.cs, false⟩ σ) := by
  obtain ⟨v, h1, h2, h3, h4⟩ := hg
  refine .inl ⟨v, w, h1, E, ?_⟩
  rw [put_tmps a hdst]
  exact h.putFlat hd h2 (h2.flat h3) h4

/-! ### Sources -/

/-- A value that comes: shape, cells without what is owned, and where the owned ones come from. -/
def src (σ : State) (mv : Bool) (x : Opd) : Option (Val × List (Nat × Nat)) := match mv, x with
  | true, .t s => match get σ s with
    | some ⟨.one, cs, _⟩ => some (⟨.one, cs.map ph⟩, (owns 0 cs).map fun j => (s, j))
    | some ⟨.agg, cs, _⟩ => some (⟨.agg, cs.map ph⟩, (owns 0 cs).map fun j => (s, j))
    | _ => none
  | _, _ => match ev σ x with
    | some ⟨.one, cs⟩ => some (⟨.one, cs⟩, [])
    | some ⟨.agg, cs⟩ => some (⟨.agg, cs⟩, [])
    | _ => none

/-- What a source tells. -/
structure SrcOk (w0 : World) (M : MN) (σ : State) (E : Env) (r : Val) (l : List (Nat × Nat)) (v : Value) : Prop where
  sh : r.sh = .one ∨ r.sh = .agg
  val : ValOk w0 M σ E r v
  roots : RootsOk σ r.cs
  own : ∀ m, m ∈ l → ∃ sl x, get σ m.1 = some sl ∧ sl.cs[m.2]? = some (.p x) ∧ m.2 < r.cs.length ∧ ∀ u, valIn r.sh v m.2 u → pvVal (E.A m.1 m.2 []) x u

theorem src_sound (h : Sim w0 M E σ a.tmps w) {mv : Bool} {x : Opd} {y : Operand} (ho : okOpd x y = true) {r : Val} {l : List (Nat × Nat)} (hr : src σ mv x = some (r, l)) : SrcOk w0 M σ E r l (a.eval y) := by
  have hev : ∀ {r : Val} {l : List (Nat × Nat)}, (match ev σ x with
    | some ⟨.one, cs⟩ => some ((⟨.one, cs⟩ : Val), ([] : List (Nat × Nat)))
    | some ⟨.agg, cs⟩ => some (⟨.agg, cs⟩, [])
    | _ => none) = some (r, l) → SrcOk w0 M σ E r l (a.eval y) := by
    intro r l hr
    split at hr
    · rename_i cs he
      simp only [Option.some.injEq, Prod.mk.injEq] at hr
      obtain ⟨rfl, rfl⟩ := hr
      exact ⟨.inl rfl, ev_sound h ho he, ev_roots h he, by simp⟩
    · rename_i cs he
      simp only [Option.some.injEq, Prod.mk.injEq] at hr
      obtain ⟨rfl, rfl⟩ := hr
      exact ⟨.inr rfl, ev_sound h ho he, ev_roots h he, by simp⟩
    · simp at hr
  unfold src at hr
  split at hr
  · rename_i s
    have hy : a.eval y = a.tmps.getD s (.tuple #[]) := by
      unfold okOpd at ho
      split at ho <;> simp_all [Act.eval, undef]
    rw [hy]
    split at hr
    · rename_i cs hc hs
      simp only [Option.some.injEq, Prod.mk.injEq] at hr
      obtain ⟨rfl, rfl⟩ := hr
      obtain ⟨g1, g2, g3⟩ := slot_raw h hs (.inl rfl)
      refine ⟨.inl rfl, g1, g2, fun m hm => ?_⟩
      simp only [List.mem_map] at hm
      obtain ⟨j, hj, rfl⟩ := hm
      obtain ⟨k, sz, es, e1, e2⟩ := mem_owns hj
      simp only [Nat.zero_add] at e1
      subst e1
      exact ⟨_, _, hs, e2, by simpa using (List.getElem?_eq_some_iff.1 e2).1, fun u hu => g3 _ _ u e2 hu⟩
    · rename_i cs hc hs
      simp only [Option.some.injEq, Prod.mk.injEq] at hr
      obtain ⟨rfl, rfl⟩ := hr
      obtain ⟨g1, g2, g3⟩ := slot_raw h hs (.inr rfl)
      refine ⟨.inr rfl, g1, g2, fun m hm => ?_⟩
      simp only [List.mem_map] at hm
      obtain ⟨j, hj, rfl⟩ := hm
      obtain ⟨k, sz, es, e1, e2⟩ := mem_owns hj
      simp only [Nat.zero_add] at e1
      subst e1
      exact ⟨_, _, hs, e2, by simpa using (List.getElem?_eq_some_iff.1 e2).1, fun u hu => g3 _ _ u e2 hu⟩
    · simp at hr
  · exact hev hr

/-- What was told of a slot before another one was laid. -/
theorem get_putK_ne {σ : State} {d s : Nat} {sl0 sl : Slot} (hne : d ≠ s) (h : get (putK d sl0 σ) s = some sl) : ∃ sl1, get σ s = some sl1 ∧ sl1.sh = sl.sh ∧ ∀ (j : Nat) x, sl.cs[j]? = some (.p x) → sl1.cs[j]? = some (.p x) := by
  unfold putK at h
  split at h
  · rw [get_put_ne σ _ hne] at h
    exact ⟨sl, h, rfl, fun _ _ hj => hj⟩
  · rw [get_put_ne _ _ hne, get_kill] at h
    simp only [Option.map_eq_some_iff] at h
    obtain ⟨sl1, g1, rfl⟩ := h
    refine ⟨sl1, g1, rfl, fun j x hj => ?_⟩
    simp only [Slot.cut, List.getElem?_map, Option.map_eq_some_iff] at hj
    obtain ⟨c, g2, g3⟩ := hj
    rw [g2, cut_p g3]

theorem get_putK_same {σ : State} {d : Nat} {sl0 sl : Slot} (h : get (putK d sl0 σ) d = some sl) : sl.sh = sl0.sh ∧ sl.cs.length = sl0.cs.length := by
  unfold putK at h
  split at h
  · rw [get_put_same] at h
    simp only [Option.some.injEq] at h
    subst h
    exact ⟨rfl, rfl⟩
  · rw [get_put_same] at h
    simp only [Option.some.injEq] at h
    subst h
    exact ⟨rfl, by simp [Slot.cut]⟩

/-! ### A value moves to a slot -/

/-- The slot d gets a value; what it owns moves in. -/
def putSrc (d : Nat) (r : Val) (l : List (Nat × Nat)) (σ : State) : Option State := mvAll d (l.map fun m => (m.1, m.2, m.2)) (putK d ⟨r.sh, r.cs, false⟩ σ)

theorem good_src (h : Sim w0 M E σ a.tmps w) {d : Nat} (hdst : o.dst = some d) (hd : d < a.tmps.size) {mv : Bool} {x : Opd} {y : Operand} (ho : okOpd x y = true) (hop : o.op = .move y ∨ o.op = .assign y)
    {r : Val} {l : List (Nat × Nat)} (hr : src σ mv x = some (r, l)) (hnd : ∀ m, m ∈ l → m.1 ≠ d) {σ' : State} (hσ : putSrc d r l σ = some σ') : Good P a o w w0 M σ' := by
  have hs := src_sound h ho hr
  have hrun : (execOp a.eval o).run P w = .ok (.value (a.eval y)) w := by
    rcases hop with e | e <;> simp [execOp, e]
  have h1 := h.putFlat hd hs.val (hs.val.flat hs.sh) hs.roots
  refine .inl ⟨_, w, hrun, ?_⟩
  rw [put_tmps a hdst]
  refine h1.mvAll hσ fun m hm => ?_
  simp only [List.mem_map] at hm
  obtain ⟨⟨s, j⟩, hm0, rfl⟩ := hm
  have hne := hnd _ hm0
  refine ⟨hne, fun sl x' sd hs1 hj1 hd1 u hu => ?_⟩
  obtain ⟨sl0, x0, g1, g2, g3, g4⟩ := hs.own _ hm0
  obtain ⟨sl1, f1, f2, f3⟩ := get_putK_ne (fun e => hne e.symm) hs1
  simp only at g1 g2 f1
  rw [g1] at f1
  simp only [Option.some.injEq] at f1
  subst f1
  have := f3 j x' hj1
  rw [g2] at this
  simp only [Option.some.injEq, Cell.p.injEq] at this
  subst this
  refine g4 u ?_
  obtain ⟨e1, -⟩ := get_putK_same hd1
  unfold cellIn at hu
  simp only at e1
  rw [e1] at hu
  have hget : (a.tmps.setIfInBounds d (a.eval y)).getD d (.tuple #[]) = a.eval y := by simp [Array.getD, hd]
  rw [hget] at hu
  unfold valIn
  rcases hs.sh with e | e
  · simp only [e] at hu ⊢; exact hu
  · simp only [e] at hu ⊢; exact hu

/-! ### Boxes -/

/-- A cell whose value is known to be one cell of memory. -/
def solid (σ : State) : Cell → Bool
  | .dead => false
  | .p .dead => false
  | .p _ => true
  | .ro (.sl _ _ _) => true
  | .ro _ => false
  | .lnk pl _ _ _ => lnkOk σ pl
  | .ptr pl => (cellAt σ pl).isSome
  | _ => true

theorem solid_one {c : Cell} {v : Value} (hc : solid σ c = true) (h : cellVal w0 M σ E 0 0 c v) : v.oneCell' = true ∧ v.cells = #[v] := by
  have sl : ∀ {n : Node} {x : PV} {u : Value}, x ≠ .dead → pvVal n x u → u.oneCell' = true ∧ u.cells = #[u] := by
    intro n x u hx hu
    cases x with
    | dead => exact (hx rfl).elim
    | bool b => simp only [pvVal] at hu; subst hu; exact ⟨rfl, rfl⟩
    | int k n => simp only [pvVal] at hu; subst hu; exact ⟨rfl, rfl⟩
    | str s => simp only [pvVal] at hu; subst hu; exact ⟨rfl, rfl⟩
    | sl sz nl es =>
      cases nl
      · simp only [pvVal] at hu; subst hu; exact ⟨rfl, rfl⟩
      · simp only [pvVal] at hu; rw [hu.1]; exact ⟨rfl, rfl⟩
  cases c with
  | dead => simp [solid] at hc
  | p x =>
    refine sl (fun e => ?_) h
    subst e
    simp [solid] at hc
  | ro x =>
    obtain ⟨α, hr⟩ := h
    refine sl (fun e => ?_) hr.val
    subst e
    simp [solid] at hc
  | lnk pl sz lo ln =>
    simp only [solid] at hc
    obtain ⟨sz', es, hx⟩ := lnkOk_some hc
    obtain ⟨-, -, off, h1, -⟩ := h sz' es hx
    rw [h1]; exact ⟨rfl, rfl⟩
  | ptr pl =>
    simp only [solid] at hc
    have := h (cellAt_ptrOk hc)
    rw [this]; exact ⟨rfl, rfl⟩
  | nilp => simp only [cellVal] at h; rw [h]; exact ⟨rfl, rfl⟩
  | rptr cs => obtain ⟨b, o, h1, -⟩ := h; rw [h1]; exact ⟨rfl, rfl⟩
  | fn f caps => obtain ⟨arr, h1, -⟩ := h; rw [h1]; exact ⟨rfl, rfl⟩

theorem get_kill_p {σ : State} {d s : Nat} {sl : Slot} (h : get (kill d σ) s = some sl) : ∃ sl1, get σ s = some sl1 ∧ sl1.sh = sl.sh ∧ ∀ (j : Nat) x, sl.cs[j]? = some (.p x) → sl1.cs[j]? = some (.p x) := by
  rw [get_kill] at h
  simp only [Option.map_eq_some_iff] at h
  obtain ⟨sl1, g1, rfl⟩ := h
  refine ⟨sl1, g1, rfl, fun j x hj => ?_⟩
  simp only [Slot.cut, List.getElem?_map, Option.map_eq_some_iff] at hj
  obtain ⟨c, g2, g3⟩ := hj
  rw [g2, cut_p g3]

/-- The slot d gets a new box. -/
def putBoxK (d : Nat) (cs : List Cell) (σ : State) : State := match get σ d with
  | none => put σ d ⟨.box, cs, false⟩
  | some _ => put (kill d σ) d ⟨.box, cs.map (Cell.cut d), false⟩

theorem Sim.putBoxK (h : Sim w0 M E σ ts w) {d : Nat} (hd : d < ts.size) {cs : List Cell} {arr : Array Value} {e : TypeId} (hsz : arr.size = cs.length)
    (hv : ∀ (j : Nat) c, cs[j]? = some c → ∃ u, arr[j]? = some u ∧ refVal w0 M σ E c u) (hr : RootsOk σ cs) :
    ∃ E', Sim w0 M E' (putBoxK d cs σ) (ts.setIfInBounds d (.pointer (some ⟨w.heap.size, 0, none⟩))) (w.alloc (.cells arr e)) ∧ E'.A = E.A ∧ E'.B d = (w.heap.size, 0) := by
  unfold Tq.putBoxK
  split
  · rename_i hg
    refine ⟨_, h.putBox hd (h.clean_absent hg) hsz hv hr (fun j c hj hc => ?_) h.frame.size, rfl, by simp⟩
    have := hr j c d hj hc
    rw [hg] at this
    simp at this
  · rename_i sl0 hg
    refine ⟨_, (h.kill d).putBox hd (clean_kill d σ) (by simpa using hsz) (fun j c hj => ?_) (fun j c r hj hc => ?_) (fun j c hj => ?_) h.frame.size, rfl, by simp⟩
    · simp only [List.getElem?_map, Option.map_eq_some_iff] at hj
      obtain ⟨c0, h6, rfl⟩ := hj
      obtain ⟨u, g1, g2⟩ := hv j c0 h6
      exact ⟨u, g1, refVal_kill g2 d⟩
    · simp only [List.getElem?_map, Option.map_eq_some_iff] at hj
      obtain ⟨c0, h6, rfl⟩ := hj
      rcases Cell.cut_cases d c0 with ⟨h7, -⟩ | ⟨h7, -⟩
      · rw [h7] at hc
        have := hr j c0 r h6 hc
        rw [get_kill]
        simpa using this
      · rw [h7] at hc
        simp [Cell.root] at hc
    · simp only [List.getElem?_map, Option.map_eq_some_iff] at hj
      obtain ⟨c0, h6, rfl⟩ := hj
      rcases Cell.cut_cases d c0 with ⟨h7, h8⟩ | ⟨h7, -⟩
      · rw [h7]; exact h8
      · rw [h7]; simp [Cell.root]

theorem get_putBoxK_ne {σ : State} {d s : Nat} {cs : List Cell} {sl : Slot} (hne : d ≠ s) (h : get (putBoxK d cs σ) s = some sl) : ∃ sl1, get σ s = some sl1 ∧ sl1.sh = sl.sh ∧ ∀ (j : Nat) x, sl.cs[j]? = some (.p x) → sl1.cs[j]? = some (.p x) := by
  unfold putBoxK at h
  split at h
  · rw [get_put_ne σ _ hne] at h
    exact ⟨sl, h, rfl, fun _ _ hj => hj⟩
  · rw [get_put_ne _ _ hne] at h
    exact get_kill_p h

theorem get_putBoxK_same {σ : State} {d : Nat} {cs : List Cell} {sl : Slot} (h : get (putBoxK d cs σ) d = some sl) : sl.sh = .box := by
  unfold putBoxK at h
  split at h <;> (rw [get_put_same] at h; simp only [Option.some.injEq] at h; subst h; rfl)

/-- The values of a zero. -/
def okZ : Cell → Value → Bool
  | .p (.bool x), .bool y => x == y
  | .p (.int k x), .int k' y => k == k' && x == y
  | .p (.str x), .string y => decide (x = y)
  | .p (.sl _ true []), .slice none 0 0 => true
  | .nilp, .pointer none => true
  | _, _ => false

theorem okZ_val {c : Cell} {v : Value} (h : okZ c v = true) : refVal w0 M σ E c v ∧ c.root = none ∧ v.oneCell' = true := by
  unfold okZ at h
  split at h
  · simp only [beq_iff_eq] at h; subst h; exact ⟨⟨rfl, rfl⟩, rfl, rfl⟩
  · simp only [Bool.and_eq_true, beq_iff_eq] at h; obtain ⟨rfl, rfl⟩ := h; exact ⟨⟨rfl, rfl⟩, rfl, rfl⟩
  · simp only [decide_eq_true_eq] at h; subst h; exact ⟨⟨rfl, rfl⟩, rfl, rfl⟩
  · exact ⟨⟨rfl, rfl, rfl⟩, rfl, rfl⟩
  · exact ⟨⟨rfl, rfl⟩, rfl, rfl⟩
  · simp at h

def okZs : List Cell → List Value → Bool
  | [], [] => true
  | c :: t, v :: t' => okZ c v && okZs t t'
  | _, _ => false

theorem okZs_val {cs : List Cell} {vs : List Value} (h : okZs cs vs = true) : cs.length = vs.length ∧ ∀ (j : Nat) c, cs[j]? = some c → ∃ u, vs[j]? = some u ∧ okZ c u = true := by
  induction cs generalizing vs with
  | nil =>
    cases vs with
    | nil => exact ⟨rfl, by simp⟩
    | cons v t => simp [okZs] at h
  | cons c t ih =>
    cases vs with
    | nil => simp [okZs] at h
    | cons v t' =>
      simp only [okZs, Bool.and_eq_true] at h
      obtain ⟨h1, h2⟩ := ih h.2
      refine ⟨by simp [h1], fun j c' hj => ?_⟩
      cases j with
      | zero => simp only [List.getElem?_cons_zero, Option.some.injEq] at hj; subst hj; exact ⟨v, rfl, h.1⟩
      | succ j => simp only [List.getElem?_cons_succ] at hj ⊢; exact h2 j c' hj

/-- A type's zero value is told by these cells. -/
def pZero (P : Program) (t : TypeId) (cs : List Cell) : Bool := match (P.info? t).bind (·.zero) with
  | some v => okZs cs v.cells.toList
  | none => false

theorem pZero_run {t : TypeId} {cs : List Cell} (h : pZero P t cs = true) : ∃ z, (∀ w, (zeroValue t).run P w = .ok z w) ∧ okZs cs z.cells.toList = true ∧ ∃ i, P.info? t = some i ∧ i.zero = some z := by
  unfold pZero at h
  split at h
  · rename_i v hv
    cases hi : P.info? t with
    | none => simp [hi] at hv
    | some i =>
      simp only [hi, Option.bind_some] at hv
      exact ⟨v, fun w => by simp [zeroValue, typeInfo, hi, hv], h, i, rfl, hv⟩
  · simp at h

theorem good_alloc (h : Sim w0 M E σ a.tmps w) {d : Nat} (hdst : o.dst = some d) (hd : d < a.tmps.size) {t : TypeId} {cs : List Cell} (hop : o.op = .alloc t) (hz : pZero P t cs = true) : Good P a o w w0 M (putBoxK d cs σ) := by
  obtain ⟨z, h1, h2, -⟩ := pZero_run hz
  obtain ⟨h3, h4⟩ := okZs_val h2
  obtain ⟨E', g1, -, -⟩ := h.putBoxK (e := t) hd (arr := z.cells) (by simpa using h3.symm) (fun j c hj => by
      obtain ⟨u, f1, f2⟩ := h4 j c hj
      exact ⟨u, by simpa using f1, (okZ_val f2).1⟩) (fun j c r hj hc => by
      obtain ⟨u, f1, f2⟩ := h4 j c hj
      rw [(okZ_val (w0 := w0) (M := M) (σ := σ) (E := E) f2).2.1] at hc
      simp at hc)
  refine .inl ⟨.pointer (some ⟨w.heap.size, 0, none⟩), w.alloc (.cells z.cells t), ?_, E', ?_⟩
  · simp [execOp, hop, Instr.alloc, h1, newVar, newRow]
  · rw [put_tmps a hdst]; exact g1

/-- Is a value's row of cells known? -/
def rowKnown (σ : State) (r : Val) (l : List (Nat × Nat)) : Bool := match r.sh, r.cs with
  | .agg, _ => true
  | .one, [c] => solid σ c || !l.isEmpty
  | _, _ => false

theorem src_cells {r : Val} {l : List (Nat × Nat)} {v : Value} (hs : SrcOk w0 M σ E r l v) (hk : rowKnown σ r l = true) (hw : ∀ m, m ∈ l → ∀ sl x, get σ m.1 = some sl → sl.cs[m.2]? = some (.p x) → ∃ sz es, x = .sl sz false es) :
    v.cells.size = r.cs.length ∧ (∀ (j : Nat) c, r.cs[j]? = some c → ∃ u, v.cells[j]? = some u ∧ refVal w0 M σ E c u) ∧ ∀ (j : Nat) u, v.cells[j]? = some u → valIn r.sh v j u ∨ r.sh = .one ∧ j = 0 ∧ u = v := by
  have hv := hs.val
  unfold ValOk at hv
  unfold rowKnown at hk
  rcases hs.sh with e | e
  · simp only [e] at hv hk
    obtain ⟨c, h1, h2⟩ := hv
    have hone : v.cells = #[v] := by
      rw [h1] at hk
      simp only [Bool.or_eq_true] at hk
      rcases hk with hk | hk
      · exact (solid_one hk h2.2).2
      · cases hl : l with
        | nil => simp [hl] at hk
        | cons m t =>
          obtain ⟨sl, x, g1, g2, g3, g4⟩ := hs.own m (by simp [hl])
          obtain ⟨sz, es, rfl⟩ := hw m (by simp [hl]) sl x g1 g2
          rw [h1] at g3
          simp only [List.length_cons, List.length_nil, Nat.zero_add, Nat.lt_one_iff] at g3
          have := g4 v (by rw [e, g3]; rfl)
          simp only [pvVal] at this
          rw [this]; rfl
    rw [hone, h1]
    refine ⟨rfl, fun j c' hj => ?_, fun j u hj => ?_⟩
    · cases j with
      | zero => simp only [List.getElem?_cons_zero, Option.some.injEq] at hj; subst hj; exact ⟨v, rfl, h2⟩
      | succ j => simp at hj
    · cases j with
      | zero => simp at hj; exact .inr ⟨e, rfl, hj.symm⟩
      | succ j => simp at hj
  · simp only [e] at hv
    obtain ⟨arr, h1, h2, h3⟩ := hv
    subst h1
    exact ⟨h2, h3, fun j u hj => .inl (by rw [e]; exact ⟨arr, rfl, hj⟩)⟩

theorem src_own {mv : Bool} {x : Opd} {r : Val} {l : List (Nat × Nat)} (hr : src σ mv x = some (r, l)) : ∀ m, m ∈ l → ∀ sl y, get σ m.1 = some sl → sl.cs[m.2]? = some (.p y) → ∃ sz es, y = .sl sz false es := by
  intro m hm sl y h1 h2
  have fin : ∀ (s : Nat) (cs : List Cell) sh hc, get σ s = some ⟨sh, cs, hc⟩ → m ∈ (owns 0 cs).map (fun j => (s, j)) → ∃ sz es, y = .sl sz false es := by
    intro s cs sh hc hs hm
    simp only [List.mem_map] at hm
    obtain ⟨j, hj, rfl⟩ := hm
    obtain ⟨k, sz, es, e1, e2⟩ := mem_owns hj
    simp only [Nat.zero_add] at e1
    subst e1
    rw [hs] at h1
    simp only [Option.some.injEq] at h1
    subst h1
    simp only at h2
    rw [e2] at h2
    simp only [Option.some.injEq, Cell.p.injEq] at h2
    exact ⟨sz, es, h2.symm⟩
  unfold src at hr
  split at hr
  · split at hr
    · rename_i hs
      simp only [Option.some.injEq, Prod.mk.injEq] at hr
      obtain ⟨rfl, rfl⟩ := hr
      exact fin _ _ _ _ hs hm
    · rename_i hs
      simp only [Option.some.injEq, Prod.mk.injEq] at hr
      obtain ⟨rfl, rfl⟩ := hr
      exact fin _ _ _ _ hs hm
    · simp at hr
  · split at hr
    · simp only [Option.some.injEq, Prod.mk.injEq] at hr
      obtain ⟨rfl, rfl⟩ := hr
      simp at hm
    · simp only [Option.some.injEq, Prod.mk.injEq] at hr
      obtain ⟨rfl, rfl⟩ := hr
      simp at hm
    · simp at hr

/-- A new box of a value. -/
def putBoxSrc (d : Nat) (r : Val) (l : List (Nat × Nat)) (σ : State) : Option State := if rowKnown σ r l = true then mvAll d (l.map fun m => (m.1, m.2, m.2)) (putBoxK d r.cs σ) else none

theorem good_box (h : Sim w0 M E σ a.tmps w) {d : Nat} (hdst : o.dst = some d) (hd : d < a.tmps.size) {mv : Bool} {x : Opd} {y : Operand} {t : TypeId} (ho : okOpd x y = true) (hop : o.op = .box t y)
    {r : Val} {l : List (Nat × Nat)} (hr : src σ mv x = some (r, l)) (hnd : ∀ m, m ∈ l → m.1 ≠ d) {σ' : State} (hσ : putBoxSrc d r l σ = some σ') : Good P a o w w0 M σ' := by
  unfold putBoxSrc at hσ
  split at hσ
  · rename_i hk
    have hs := src_sound h ho hr
    obtain ⟨c1, c2, c3⟩ := src_cells hs hk (src_own hr)
    obtain ⟨E', g1, g2, g3⟩ := h.putBoxK (e := t) hd c1 c2 hs.roots
    refine .inl ⟨.pointer (some ⟨w.heap.size, 0, none⟩), w.alloc (.cells (a.eval y).cells t), by simp [execOp, hop, Instr.box, newVar, newRow], ?_⟩
    rw [put_tmps a hdst]
    refine g1.mvAll hσ fun m hm => ?_
    simp only [List.mem_map] at hm
    obtain ⟨⟨s, j⟩, hm0, rfl⟩ := hm
    have hne := hnd _ hm0
    refine ⟨hne, fun sl x' sd hs1 hj1 hd1 u hu => ?_⟩
    obtain ⟨sl0, x0, f1, f2, f3, f4⟩ := hs.own _ hm0
    obtain ⟨sl1, e1, e2, e3⟩ := get_putBoxK_ne (fun e => hne e.symm) hs1
    simp only at f1 f2 f3 f4 e1
    rw [f1] at e1
    simp only [Option.some.injEq] at e1
    subst e1
    have := e3 j x' hj1
    rw [f2] at this
    simp only [Option.some.injEq, Cell.p.injEq] at this
    subst this
    rw [g2]
    have hsh := get_putBoxK_same hd1
    unfold cellIn at hu
    simp only [hsh] at hu
    have hb : E'.bcell d j = ⟨w.heap.size, j, none⟩ := by simp [Env.bcell, g3]
    rw [hb] at hu
    have hblk : (w.alloc (.cells (a.eval y).cells t)).heap[w.heap.size]? = some (Obj.cells (a.eval y).cells t (0, 0)) := by
      show (w.heap.push _)[w.heap.size]? = _
      simp
    rw [cell_of_block (a := ⟨w.heap.size, j, none⟩) hblk rfl] at hu
    rcases c3 j u hu with hv | ⟨hv1, hv2, hv3⟩
    · exact f4 u hv
    · subst hv2; subst hv3
      exact f4 _ (by rw [hv1]; rfl)
  · simp at hσ

end
end Go.Tq
/- Aggregates and rows that are made of parts. -/
namespace Go.Tq
open Go.RowKit

/-! ### The machine's fill -/

theorem foldl_set_list (vs : List Value) : ∀ (k off : Nat) (cells : Array Value), off + k + vs.length ≤ cells.size →
    ((vs.zipIdx k).foldl (fun cs (p : Value × Nat) => cs.setIfInBounds (off + p.2) p.1) cells).size = cells.size ∧
    ∀ j : Nat, ((vs.zipIdx k).foldl (fun cs (p : Value × Nat) => cs.setIfInBounds (off + p.2) p.1) cells)[j]? = if off + k ≤ j ∧ j < off + k + vs.length then vs[j - (off + k)]? else cells[j]? := by
  induction vs with
  | nil =>
    intro k off cells _
    refine ⟨rfl, fun j => ?_⟩
    rw [if_neg (by simp only [List.length_nil]; omega)]
    rfl
  | cons v t ih =>
    intro k off cells h
    simp only [List.length_cons] at h
    simp only [List.zipIdx_cons, List.foldl_cons]
    obtain ⟨h1, h2⟩ := ih (k + 1) off (cells.setIfInBounds (off + k) v) (by simp; omega)
    refine ⟨by rw [h1]; simp, fun j => ?_⟩
    rw [h2 j]
    simp only [List.length_cons]
    by_cases hj : off + (k + 1) ≤ j ∧ j < off + (k + 1) + t.length
    · rw [if_pos hj, if_pos (by omega)]
      have e : j - (off + k) = (j - (off + (k + 1))) + 1 := by omega
      rw [e, List.getElem?_cons_succ]
    · rw [if_neg hj, Array.getElem?_setIfInBounds]
      by_cases hjk : off + k = j
      · have h3 : off + k < cells.size := by omega
        subst hjk
        simp [h3]
      · rw [if_neg hjk, if_neg (by omega)]

theorem fill_cons {place : Nat → Option (Nat × Nat)} {cells : Array Value} {i : Nat} {v : Value} {rest : List (Nat × Value)} {off size : Nat} (hp : place i = some (off, size)) (hs : v.cells.size = size) (hb : off + size ≤ cells.size)
    : ∃ cells' : Array Value, cells'.size = cells.size ∧ (∀ j : Nat, cells'[j]? = if off ≤ j ∧ j < off + size then v.cells[j - off]? else cells[j]?) ∧ Instr.fill place cells ((i, v) :: rest) = Instr.fill place cells' rest := by
  obtain ⟨h1, h2⟩ := foldl_set_list v.cells.toList 0 off cells (by simp; omega)
  have e : v.cells.zipIdx.foldl (fun cs (x : Value × Nat) => match x with | (c, j) => cs.setIfInBounds (off + j) c) cells = (v.cells.toList.zipIdx 0).foldl (fun cs (p : Value × Nat) => cs.setIfInBounds (off + p.2) p.1) cells := by
    rw [← Array.foldl_toList]
    simp
  refine ⟨(v.cells.toList.zipIdx 0).foldl (fun cs (p : Value × Nat) => cs.setIfInBounds (off + p.2) p.1) cells, h1, fun j => ?_, ?_⟩
  · rw [h2 j]
    simp only [Nat.add_zero, Array.length_toList, hs]
    split
    · simp
    · rfl
  · simp only [Instr.fill, hp]
    rw [if_neg (by simp [hs]; omega), e]

/-! ### Parts -/

structure Part where
  off : Nat
  size : Nat
  x : Opd
  mv : Bool

def setRange (cs : List Cell) (off : Nat) (ns : List Cell) : List Cell := cs.take off ++ (ns ++ cs.drop (off + ns.length))

theorem setRange_length {cs ns : List Cell} {off : Nat} (h : off + ns.length ≤ cs.length) : (setRange cs off ns).length = cs.length := by
  simp [setRange]; omega

theorem setRange_get {cs ns : List Cell} {off : Nat} (h : off + ns.length ≤ cs.length) (j : Nat) : (setRange cs off ns)[j]? = if off ≤ j ∧ j < off + ns.length then ns[j - off]? else cs[j]? := by
  unfold setRange
  rw [List.getElem?_append]
  have hl : (cs.take off).length = off := by simp; omega
  rw [hl]
  by_cases h1 : j < off
  · rw [if_pos h1, if_neg (by omega), List.getElem?_take, if_pos h1]
  · rw [if_neg h1, List.getElem?_append]
    by_cases h2 : j - off < ns.length
    · rw [if_pos h2, if_pos (by omega)]
    · rw [if_neg h2, if_neg (by omega), List.getElem?_drop]
      congr 1
      omega

/-- Parts are laid into cells; where owned cells come from, and where they go. -/
def fillT (σ : State) : List Part → List Cell → List (Nat × Nat × Nat) → Option (List Cell × List (Nat × Nat × Nat))
  | [], cs, ms => some (cs, ms)
  | p :: rest, cs, ms => match src σ p.mv p.x with
    | some (r, l) => if rowKnown σ r l = true ∧ r.cs.length = p.size ∧ p.off + p.size ≤ cs.length ∧ ms.all (fun m => decide (m.2.2 < p.off ∨ p.off + p.size ≤ m.2.2)) = true then
        fillT σ rest (setRange cs p.off r.cs) (ms ++ l.map fun m => (m.1, m.2, p.off + m.2)) else none
    | none => none

/-- The cells that are told stand in the row. -/
structure RowOk (w0 : World) (M : MN) (σ : State) (E : Env) (cs : List Cell) (ms : List (Nat × Nat × Nat)) (arr : Array Value) : Prop where
  size : arr.size = cs.length
  val : ∀ (j : Nat) c, cs[j]? = some c → ∃ u, arr[j]? = some u ∧ refVal w0 M σ E c u
  root : RootsOk σ cs
  own : ∀ m, m ∈ ms → ∃ sl sz es, get σ m.1 = some sl ∧ sl.cs[m.2.1]? = some (.p (.sl sz false es)) ∧ m.2.2 < cs.length ∧ ∀ u, arr[m.2.2]? = some u → pvVal (E.A m.1 m.2.1 []) (.sl sz false es) u

def okParts (places : Nat → Option (Nat × Nat)) : List Part → List (Nat × Operand) → Bool
  | [], [] => true
  | p :: t, (i, o) :: t' => places i == some (p.off, p.size) && okOpd p.x o && okParts places t t'
  | _, _ => false

section
variable {P : Program} {a : Act} {o : Oper} {w w0 : World} {M : MN} {σ : State} {E : Env} {ts : Array Value}

theorem fillT_sound (h : Sim w0 M E σ a.tmps w) {places : Nat → Option (Nat × Nat)} : ∀ {tp : List Part} {ps : List (Nat × Operand)} {cs cs' : List Cell} {ms ms' : List (Nat × Nat × Nat)} {arr : Array Value}, okParts places tp ps = true → RowOk w0 M σ E cs ms arr →
    fillT σ tp cs ms = some (cs', ms') → ∃ arr', Instr.fill places arr (ps.map fun p => (p.1, a.eval p.2)) = some arr' ∧ RowOk w0 M σ E cs' ms' arr' := by
  intro tp
  induction tp with
  | nil =>
    intro ps cs cs' ms ms' arr hok hr hf
    cases ps with
    | nil =>
      simp only [fillT, Option.some.injEq, Prod.mk.injEq] at hf
      obtain ⟨rfl, rfl⟩ := hf
      exact ⟨arr, rfl, hr⟩
    | cons p t => simp [okParts] at hok
  | cons p t ih =>
    intro ps cs cs' ms ms' arr hok hr hf
    cases ps with
    | nil => simp [okParts] at hok
    | cons q t' =>
      obtain ⟨i, y⟩ := q
      simp only [okParts, Bool.and_eq_true, beq_iff_eq] at hok
      obtain ⟨⟨hp, ho⟩, hok'⟩ := hok
      simp only [fillT] at hf
      split at hf
      · rename_i r l hsrc
        split at hf
        · rename_i hc
          obtain ⟨k1, k2, k3, k4⟩ := hc
          have hs := src_sound h ho hsrc
          have hown := src_own hsrc
          obtain ⟨c1, c2, c3⟩ := src_cells hs k1 hown
          obtain ⟨cells', f1, f2, f3⟩ := fill_cons (rest := t'.map fun p => (p.1, a.eval p.2)) (cells := arr) (v := a.eval y) hp (by omega) (by rw [hr.size]; omega)
          simp only [List.map_cons]
          rw [f3]
          refine ih hok' ⟨?_, ?_, ?_, ?_⟩ hf
          · rw [f1, hr.size, setRange_length (by omega)]
          · intro j c hj
            rw [setRange_get (by omega)] at hj
            rw [f2]
            rw [k2] at hj
            split at hj
            · rename_i hin
              rw [if_pos hin]
              exact c2 _ c hj
            · rename_i hin
              rw [if_neg hin]
              exact hr.val j c hj
          · intro j c rt hj hrt
            rw [setRange_get (by omega)] at hj
            split at hj
            · exact hs.roots _ c rt hj hrt
            · exact hr.root j c rt hj hrt
          · intro m hm
            rw [List.mem_append] at hm
            rcases hm with hm | hm
            · obtain ⟨sl, sz, es, g1, g2, g3, g4⟩ := hr.own m hm
              refine ⟨sl, sz, es, g1, g2, by rw [setRange_length (by omega)]; exact g3, fun u hu => g4 u ?_⟩
              rw [f2] at hu
              rw [List.all_eq_true] at k4
              have := k4 m hm
              simp only [decide_eq_true_eq] at this
              rw [if_neg (by omega)] at hu
              exact hu
            · simp only [List.mem_map] at hm
              obtain ⟨m0, hm0, rfl⟩ := hm
              obtain ⟨sl, x, g1, g2, g3, g4⟩ := hs.own m0 hm0
              obtain ⟨sz, es, rfl⟩ := hown m0 hm0 sl x g1 g2
              refine ⟨sl, sz, es, g1, g2, by rw [setRange_length (by omega)]; simp only; omega, fun u hu => ?_⟩
              simp only at hu
              rw [f2, if_pos (by omega)] at hu
              have e : p.off + m0.2 - p.off = m0.2 := by omega
              rw [e] at hu
              rcases c3 _ u hu with hv | ⟨hv1, hv2, hv3⟩
              · exact g4 u hv
              · subst hv3
                exact g4 _ (by rw [hv1, hv2]; rfl)
        · simp at hf
      · simp at hf

theorem rowOk_zero {cs : List Cell} {z : Value} (h : okZs cs z.cells.toList = true) : RowOk w0 M σ E cs [] z.cells := by
  obtain ⟨h3, h4⟩ := okZs_val h
  refine ⟨by simpa using h3.symm, fun j c hj => ?_, fun j c r hj hc => ?_, by simp⟩
  · obtain ⟨u, f1, f2⟩ := h4 j c hj
    exact ⟨u, by simpa using f1, (okZ_val f2).1⟩
  · obtain ⟨u, f1, f2⟩ := h4 j c hj
    rw [(okZ_val (w0 := w0) (M := M) (σ := σ) (E := E) f2).2.1] at hc
    simp at hc

/-- A struct's places. -/
def placesOf (P : Program) (t : TypeId) : Option (List (Nat × Nat)) := match P.underlying t with
  | some (.struct fields) => fields.toList.mapM (fun f => (P.info? f.type).map fun i => (f.offset, i.size))
  | _ => none

theorem built_of {t : TypeId} {zs : List Cell} {pl : List (Nat × Nat)} (hz : pZero P t zs = true) (hp : placesOf P t = some pl) : ∃ z : Value, okZs zs z.cells.toList = true ∧ ∀ parts, P.built t parts = Instr.fill (pl.toArray[·]?) z.cells parts := by
  obtain ⟨z, -, h2, i, h3, h4⟩ := pZero_run hz
  refine ⟨z, h2, fun parts => ?_⟩
  unfold placesOf at hp
  unfold Program.built
  cases hu : P.underlying t with
  | none => simp [hu] at hp
  | some d =>
    cases d <;> simp only [hu, reduceCtorEq] at hp
    simp only [h3, h4, hp]

/-- The slot d gets a struct that is made of parts. -/
def putBuild (d : Nat) (cs : List Cell) (ms : List (Nat × Nat × Nat)) (σ : State) : Option State := mvAll d ms (putK d ⟨.agg, cs, false⟩ σ)

theorem good_build (h : Sim w0 M E σ a.tmps w) {d : Nat} (hdst : o.dst = some d) (hd : d < a.tmps.size) {t : TypeId} {ps : Array (Nat × Operand)} {zs : List Cell} {pl : List (Nat × Nat)} {tp : List Part} (hop : o.op = .build t ps) (hz : pZero P t zs = true) (hp : placesOf P t = some pl)
    (hok : okParts (pl.toArray[·]?) tp ps.toList = true) {cs : List Cell} {ms : List (Nat × Nat × Nat)} (hf : fillT σ tp zs [] = some (cs, ms)) (hnd : ∀ m, m ∈ ms → m.1 ≠ d) {σ' : State} (hσ : putBuild d cs ms σ = some σ') : Good P a o w w0 M σ' := by
  obtain ⟨z, h1, h2⟩ := built_of hz hp
  obtain ⟨arr, f1, hr⟩ := fillT_sound h hok (rowOk_zero h1) hf
  have hrun : (execOp a.eval o).run P w = .ok (.value (.agg arr)) w := by
    have hb := run_build (P := P) w t (ps.map fun (i, x) => (i, a.eval x)) arr (by
      rw [h2]
      rw [← f1]
      congr 1
      simp)
    simp only [execOp, hop]
    rw [Sem.run_bind, hb]
    rfl
  have hval : ValOk w0 M σ E ⟨.agg, cs⟩ (.agg arr) := ⟨arr, rfl, hr.size, hr.val⟩
  have g1 := h.putFlat hd hval (hval.flat (.inr rfl)) hr.root
  refine .inl ⟨.agg arr, w, hrun, ?_⟩
  rw [put_tmps a hdst]
  refine g1.mvAll hσ fun m hm => ?_
  have hne := hnd m hm
  refine ⟨hne, fun sl x' sd hs1 hj1 hd1 u hu => ?_⟩
  obtain ⟨sl0, sz, es, e1, e2, e3, e4⟩ := hr.own m hm
  obtain ⟨sl1, q1, q2, q3⟩ := get_putK_ne (fun e => hne e.symm) hs1
  rw [e1] at q1
  simp only [Option.some.injEq] at q1
  subst q1
  have := q3 _ x' hj1
  rw [e2] at this
  simp only [Option.some.injEq, Cell.p.injEq] at this
  subst this
  refine e4 u ?_
  obtain ⟨hsh, -⟩ := get_putK_same hd1
  unfold cellIn at hu
  simp only at hsh
  rw [hsh] at hu
  have hget : (a.tmps.setIfInBounds d (.agg arr)).getD d (.tuple #[]) = .agg arr := by simp [Array.getD, hd]
  rw [hget] at hu
  obtain ⟨arr', k1, k2⟩ := hu
  simp only [Value.agg.injEq] at k1
  subst k1
  exact k2

end
end Go.Tq
/- New slices: literals, make; what is owned moves into a slice's elements. -/
namespace Go.Tq
open Go.RowKit

/-- An owned cell (s, j) moves to the cell k of the element i of the slice at (d, c, q): its header stands there already. -/
def mvN1 (d c : Nat) (q : Steps) (m : Nat × Nat × Nat × Nat) (σ : State) : Option State := match m with
  | (s, j, i, k) => match get σ s with
    | some sl => match sl.cs[j]? with
      | some (.p x) =>
        let σ2 := mapC (Cell.cutN d c (k :: shp q)) (put σ s (sl.setC j .dead))
        match get σ2 d with
        | some sd => match sd.cs[c]? with
          | some (.p z) => if s ≠ d ∧ (z.getR ((i, k) :: q)).isSome = true then some (put σ2 d (sd.setC c (.p (z.setR ((i, k) :: q) x)))) else none
          | _ => none
        | none => none
      | _ => none
    | none => none

def mvNAll (d c : Nat) (q : Steps) : List (Nat × Nat × Nat × Nat) → State → Option State
  | [], σ => some σ
  | m :: l, σ => match mvN1 d c q m σ with
    | some σ' => mvNAll d c q l σ'
    | none => none

section
variable {P : Program} {a : Act} {o : Oper} {w w0 : World} {M : MN} {σ : State} {E : Env} {ts : Array Value}

def StandsN (w : World) (σ : State) (E : Env) (d c : Nat) (q : Steps) (m : Nat × Nat × Nat × Nat) : Prop :=
  ∀ sl x, get σ m.1 = some sl → sl.cs[m.2.1]? = some (.p x) → ∃ u, w.cell? ((E.A d c q).cell m.2.2.1 m.2.2.2) = some u ∧ pvVal (E.A m.1 m.2.1 []) x u

theorem Sim.mvN1 (h : Sim w0 M E σ ts w) {d c : Nat} {q : Steps} {m : Nat × Nat × Nat × Nat} {σ' : State} (hm : mvN1 d c q m σ = some σ') (hst : StandsN w σ E d c q m) :
    ∃ E', Sim w0 M E' σ' ts w ∧ E'.B = E.B ∧ E'.A d c q = E.A d c q ∧ (∀ s j, s ≠ d → E'.A s j = E.A s j) ∧
      ∀ s sl (j : Nat) x, s ≠ d → get σ' s = some sl → sl.cs[j]? = some (.p x) → ∃ sl0, get σ s = some sl0 ∧ sl0.cs[j]? = some (.p x) := by
  obtain ⟨s, j, i, k⟩ := m
  simp only [Tq.mvN1] at hm
  split at hm
  · rename_i sl hs
    split at hm
    · rename_i x hj
      split at hm
      · rename_i sd hd
        split at hm
        · rename_i z hz
          split at hm
          · rename_i hc
            obtain ⟨hne, hsome⟩ := hc
            obtain ⟨old, hold⟩ := Option.isSome_iff_exists.1 hsome
            simp only [Option.some.injEq] at hm
            subst hm
            have hjl : j < sl.cs.length := (List.getElem?_eq_some_iff.1 hj).1
            obtain ⟨u0, o1, o2, o3⟩ := h.owned hs hj
            obtain ⟨u, s1, s2⟩ := hst sl x hs hj
            have hf := cuts_cutN d c (k :: shp q)
            have h1 := (h.drop hs hjl).mapC hf
            refine ⟨_, h1.reviveN (u := u) hd hz hold ⟨s2, o1.cell, o1.node, o1.disj⟩ s1 (fun id a hfp ha => o2 id a ((fpOf_mapC hf E _ id a).1 hfp) ha) o3 (fun pl hr => refL_cutN hr) (fun pl a q' hr hq => refP_cutN hr hq), rfl, ?_, fun s' j' hs' => Env.setA_ne E _ (fun e => hs' e.1), ?_⟩
            · rw [Env.setA_same, Lay.upd_none _ _ _ (front_node_none i k q)]
            · intro s1 sl1 j1 x1 hs1 hg hx1
              rw [get_put_ne _ _ (fun e => hs1 e.symm), get_mapC] at hg
              simp only [Option.map_eq_some_iff] at hg
              obtain ⟨sl2, g3, rfl⟩ := hg
              simp only [List.getElem?_map, Option.map_eq_some_iff] at hx1
              obtain ⟨c1, g4, g5⟩ := hx1
              have g6 := hf.p.1 g5
              subst g6
              by_cases e : s = s1
              · subst e
                rw [get_put_same] at g3
                simp only [Option.some.injEq] at g3
                subst g3
                rw [get_setC _ hjl] at g4
                split at g4
                · simp at g4
                · exact ⟨sl, hs, g4⟩
              · rw [get_put_ne σ _ e] at g3
                exact ⟨sl2, g3, g4⟩
          · simp at hm
        · simp at hm
      · simp at hm
    · simp at hm
  · simp at hm

theorem Sim.mvNAll {d c : Nat} {q : Steps} {l : List (Nat × Nat × Nat × Nat)} : ∀ {σ : State} {E : Env} {σ' : State}, Sim w0 M E σ ts w → mvNAll d c q l σ = some σ' → (∀ m, m ∈ l → m.1 ≠ d ∧ StandsN w σ E d c q m) → ∃ E', Sim w0 M E' σ' ts w := by
  induction l with
  | nil =>
    intro σ E σ' h hm _
    simp only [Tq.mvNAll, Option.some.injEq] at hm
    subst hm
    exact ⟨E, h⟩
  | cons m l ih =>
    intro σ E σ' h hm hst
    simp only [Tq.mvNAll] at hm
    split at hm
    · rename_i σ1 h1
      obtain ⟨E1, g1, g2, g3, g4, g5⟩ := h.mvN1 h1 (hst m (by simp)).2
      refine ih g1 hm fun m' hm' => ?_
      obtain ⟨f1, f2⟩ := hst m' (by simp [hm'])
      refine ⟨f1, ?_⟩
      intro sl x hs hj
      obtain ⟨sl0, e1, e2⟩ := g5 _ _ _ _ f1 hs hj
      rw [g3, g4 _ _ f1]
      exact f2 sl0 x e1 e2
    · simp at hm

/-! ### Rows -/

/-- A cell that may lie in a slice. -/
def toPV : Cell → Option PV
  | .p (.sl _ false _) => none
  | .p x => some x
  | .dead => some .dead
  | _ => none

def toPVs : List Cell → Option (List PV)
  | [] => some []
  | c :: t => match toPV c, toPVs t with
    | some x, some l => some (x :: l)
    | _, _ => none

theorem toPVs_get {cs : List Cell} {l : List PV} (h : toPVs cs = some l) : l.length = cs.length ∧ ∀ (j : Nat) x, l[j]? = some x → ∃ c, cs[j]? = some c ∧ toPV c = some x := by
  induction cs generalizing l with
  | nil =>
    simp only [toPVs, Option.some.injEq] at h
    subst h
    exact ⟨rfl, by simp⟩
  | cons c t ih =>
    simp only [toPVs] at h
    split at h
    · rename_i x l' h1 h2
      simp only [Option.some.injEq] at h
      subst h
      obtain ⟨g1, g2⟩ := ih h2
      refine ⟨by simp [g1], fun j y hj => ?_⟩
      cases j with
      | zero => simp only [List.getElem?_cons_zero, Option.some.injEq] at hj; subst hj; exact ⟨c, rfl, h1⟩
      | succ j => simp only [List.getElem?_cons_succ] at hj ⊢; exact g2 j y hj
    · simp at h

theorem toPV_val {c : Cell} {x : PV} {u : Value} (h : toPV c = some x) (hu : refVal w0 M σ E c u) : x.flat = true ∧ pvVal ⟨0, 0, 0, 0⟩ x u := by
  unfold toPV at h
  split at h
  · simp at h
  · rename_i y hn
    simp only [Option.some.injEq] at h
    subst h
    exact ⟨hu.1, pvVal_flat hu.1 hu.2⟩
  · simp only [Option.some.injEq] at h
    subst h
    exact ⟨rfl, trivial⟩
  · simp at h

/-- Rows of sz cells. -/
def chunk (sz : Nat) : Nat → List PV → List (List PV)
  | 0, _ => []
  | n + 1, l => l.take sz :: chunk sz n (l.drop sz)

theorem chunk_length (sz n : Nat) (l : List PV) : (chunk sz n l).length = n := by
  induction n generalizing l with
  | zero => rfl
  | succ n ih => simp [chunk, ih]

theorem chunk_get {sz n : Nat} {l : List PV} (hl : l.length = n * sz) : ∀ {i : Nat} {cs : List PV}, (chunk sz n l)[i]? = some cs → cs.length = sz ∧ ∀ (k : Nat) x, cs[k]? = some x → l[i * sz + k]? = some x := by
  induction n generalizing l with
  | zero => intro i cs h; simp [chunk] at h
  | succ n ih =>
    intro i cs h
    have hl2 : l.length = n * sz + sz := by rw [hl, Nat.add_mul, Nat.one_mul]
    cases i with
    | zero =>
      simp only [chunk, List.getElem?_cons_zero, Option.some.injEq] at h
      subst h
      refine ⟨by simp; omega, fun k x hk => ?_⟩
      rw [List.getElem?_take] at hk
      split at hk
      · simpa using hk
      · simp at hk
    | succ i =>
      simp only [chunk, List.getElem?_cons_succ] at h
      obtain ⟨h1, h2⟩ := ih (l := l.drop sz) (by simp; omega) h
      refine ⟨h1, fun k x hk => ?_⟩
      have := h2 k x hk
      rw [List.getElem?_drop] at this
      rw [← this]
      congr 1
      rw [Nat.add_mul, Nat.one_mul]; omega

/-- A slot for a new slice; refs to what the slot was end. -/
def putRow (d sz : Nat) (es : List (List PV)) (σ : State) : State := match get σ d with
  | none => put σ d ⟨.one, [.p (.sl sz false es)], false⟩
  | some _ => put (kill d σ) d ⟨.one, [.p (.sl sz false es)], false⟩

theorem get_putRow_ne {σ : State} {d s sz : Nat} {es : List (List PV)} {sl : Slot} (hne : d ≠ s) (h : get (putRow d sz es σ) s = some sl) : ∃ sl1, get σ s = some sl1 ∧ sl1.sh = sl.sh ∧ ∀ (j : Nat) x, sl.cs[j]? = some (.p x) → sl1.cs[j]? = some (.p x) := by
  unfold putRow at h
  split at h
  · rw [get_put_ne σ _ hne] at h
    exact ⟨sl, h, rfl, fun _ _ hj => hj⟩
  · rw [get_put_ne _ _ hne] at h
    exact get_kill_p h

/-- A new block of cells, a new slice over it. -/
theorem Sim.putRow (h : Sim w0 M E σ ts w) {d : Nat} (hd : d < ts.size) {sz cap : Nat} {es : List (List PV)} {arr : Array Value} {e : TypeId} {w1 : World} (hh : w1.heap = w.heap) (hf1 : Frame w0 M w1) (hlen : es.length ≤ cap) (hrow : ∀ cs, cs ∈ es → cs.length = sz) (hsz : cap * sz ≤ arr.size)
    (hv : ∀ i k cs x, es[i]? = some cs → cs[k]? = some x → ∃ u, arr[i * sz + k]? = some u ∧ x.flat = true ∧ pvVal ⟨0, 0, 0, 0⟩ x u) :
    ∃ E', Sim w0 M E' (putRow d sz es σ) (ts.setIfInBounds d (.slice (some ⟨w.heap.size, 0, none⟩) es.length cap)) (w1.alloc (.cells arr e)) ∧ (∀ s, s ≠ d → E'.A s = E.A s) ∧ E'.A d 0 [] = ⟨w.heap.size, 0, cap, sz⟩ := by
  obtain ⟨o1, o2⟩ := own_new (w := w1) (e := e) hlen hrow hsz hv
  rw [hh] at o1 o2
  have hcell : ∀ {b : Addr} {u : Value}, w.cell? b = some u → w1.cell? b = some u := by
    intro b u hb
    unfold World.cell? at hb ⊢
    rw [hh]; exact hb
  have hshp1 : Shp w w1 := fun b c e fz hb => ⟨c, by rw [hh]; exact hb, rfl⟩
  have key : ∀ {σ1 : State}, Sim w0 M E σ1 ts w → Clean d σ1 → Sim w0 M (E.setA d 0 (rowLay ⟨w.heap.size, 0, cap, sz⟩ (fun _ _ _ => ⟨0, 0, 0, 0⟩))) (put σ1 d ⟨.one, [.p (.sl sz false es)], false⟩) (ts.setIfInBounds d (.slice (some ⟨w.heap.size, 0, none⟩) es.length cap)) (w1.alloc (.cells arr e)) := by
    intro σ1 h1 hcl
    refine h1.putOwn hd hcl o1 (hshp1.trans (shp_alloc _ _)) (hf1.alloc _) (fun _ _ _ _ u hu => cell_alloc (hcell hu) _) (fun id a _ hf ha => ?_) (fun a ha => h.fresh a ?_)
    · have := h1.fp_lt hf
      have := o2 a ha
      omega
    · rw [o2 a ha]; exact h.frame.size
  unfold Tq.putRow
  split
  · rename_i hg
    exact ⟨_, key h (h.clean_absent hg), fun s hs => funext fun i => Env.setA_ne E _ (fun e => hs e.1), by rw [Env.setA_same]; rfl⟩
  · exact ⟨_, key (h.kill d) (clean_kill d σ), fun s hs => funext fun i => Env.setA_ne E _ (fun e => hs e.1), by rw [Env.setA_same]; rfl⟩

/-- The moves into a new slice's elements. -/
def putRowMv (d sz : Nat) (es : List (List PV)) (ms : List (Nat × Nat × Nat)) (σ : State) : Option State := mvNAll d 0 [] (ms.map fun m => (m.1, m.2.1, m.2.2 / sz, m.2.2 % sz)) (putRow d sz es σ)

def zrep (zs : List Cell) : Nat → List Cell
  | 0 => []
  | n + 1 => zs ++ zrep zs n

theorem zrep_length (zs : List Cell) (n : Nat) : (zrep zs n).length = n * zs.length := by
  induction n with
  | zero => simp [zrep]
  | succ n ih => simp [zrep, ih, Nat.add_mul]; omega

theorem zrep_get (zs : List Cell) (n : Nat) (j : Nat) (c : Cell) (h : (zrep zs n)[j]? = some c) : zs[j % zs.length]? = some c := by
  induction n generalizing j with
  | zero => simp [zrep] at h
  | succ n ih =>
    simp only [zrep] at h
    rw [List.getElem?_append] at h
    split at h
    · rename_i hlt
      rw [Nat.mod_eq_of_lt hlt]; exact h
    · rename_i hge
      have := ih _ h
      rw [← this]
      congr 1
      rw [Nat.mod_eq_sub_mod (by omega)]

/-- The zeros of a row, as the machine lays them. -/
theorem rowOk_zeros {zs : List Cell} {z : Value} {n : Nat} (h : okZs zs z.cells.toList = true) (hn : n * zs.length ≠ 0) : RowOk w0 M σ E (zrep zs n) [] ((Array.range (n * zs.length)).map (z.cells[· % z.cells.size]!)) := by
  obtain ⟨h3, h4⟩ := okZs_val h
  have hsz : z.cells.size = zs.length := by simpa using h3.symm
  have hpos : 0 < zs.length := by
    rcases Nat.eq_zero_or_pos zs.length with e | e
    · rw [e] at hn; simp at hn
    · exact e
  have hget : ∀ (j : Nat) c, (zrep zs n)[j]? = some c → ∃ u, ((Array.range (n * zs.length)).map (z.cells[· % z.cells.size]!))[j]? = some u ∧ okZ c u = true := by
    intro j c hj
    have hlt : j < n * zs.length := by rw [← zrep_length]; exact (List.getElem?_eq_some_iff.1 hj).1
    obtain ⟨u, f1, f2⟩ := h4 _ c (zrep_get zs n j c hj)
    refine ⟨u, ?_, f2⟩
    have hm : j % z.cells.size < z.cells.size := Nat.mod_lt _ (by omega)
    rw [← hsz] at f1
    simp only [Array.getElem?_toList] at f1
    simp only [Array.getElem?_map, Array.getElem?_range, hlt, if_true, Option.map_some]
    rw [getElem!_pos z.cells _ hm]
    rw [Array.getElem?_eq_getElem hm] at f1
    exact f1
  refine ⟨by simp [zrep_length], fun j c hj => ?_, fun j c r hj hc => ?_, by simp⟩
  · obtain ⟨u, f1, f2⟩ := hget j c hj
    exact ⟨u, f1, (okZ_val f2).1⟩
  · obtain ⟨u, f1, f2⟩ := hget j c hj
    rw [(okZ_val (w0 := w0) (M := M) (σ := σ) (E := E) f2).2.1] at hc
    simp at hc

/-- A row that is laid: a new slice, what is owned moved in. -/
theorem good_row (h : Sim w0 M E σ a.tmps w) {d : Nat} (hdst : o.dst = some d) (hd : d < a.tmps.size) {sz len : Nat} {cs : List Cell} {ms : List (Nat × Nat × Nat)} {l : List PV} {arr : Array Value} {e : TypeId} (hr : RowOk w0 M σ E cs ms arr) (hlen : cs.length = len * sz) (hl : toPVs cs = some l)
    (hrun : (execOp a.eval o).run P w = .ok (.value (.slice (some ⟨w.heap.size, 0, none⟩) len len)) (w.alloc (.cells arr e))) (hnd : ∀ m, m ∈ ms → m.1 ≠ d) {σ' : State} (hσ : putRowMv d sz (chunk sz len l) ms σ = some σ') : Good P a o w w0 M σ' := by
  obtain ⟨l1, l2⟩ := toPVs_get hl
  have hrows : ∀ cs', cs' ∈ chunk sz len l → cs'.length = sz := by
    intro cs' hc
    obtain ⟨i, hi⟩ := List.mem_iff_getElem?.1 hc
    exact (chunk_get (by omega) hi).1
  obtain ⟨E', g1, g2, g3⟩ := h.putRow (e := e) hd (cap := len) (arr := arr) (sz := sz) (es := chunk sz len l) rfl h.frame (by rw [chunk_length]; omega) hrows (by rw [hr.size, hlen]; omega) (fun i k cs' x h1 h2 => by
    have := (chunk_get (by omega) h1).2 k x h2
    obtain ⟨c, f1, f2⟩ := l2 _ x this
    obtain ⟨u, f3, f4⟩ := hr.val _ c f1
    exact ⟨u, f3, toPV_val f2 f4⟩)
  rw [chunk_length] at g1
  refine .inl ⟨_, _, hrun, ?_⟩
  rw [put_tmps a hdst]
  refine g1.mvNAll hσ fun m hm => ?_
  simp only [List.mem_map] at hm
  obtain ⟨m0, hm0, rfl⟩ := hm
  have hne := hnd m0 hm0
  refine ⟨hne, fun sl x' hs1 hj1 => ?_⟩
  obtain ⟨sl0, sz0, es0, e1, e2, e3, e4⟩ := hr.own m0 hm0
  obtain ⟨sl1, q1, q2, q3⟩ := get_putRow_ne (fun e => hne e.symm) hs1
  rw [e1] at q1
  simp only [Option.some.injEq] at q1
  subst q1
  have := q3 _ x' hj1
  rw [e2] at this
  simp only [Option.some.injEq, Cell.p.injEq] at this
  subst this
  have hsz0 : 0 < sz := by
    rcases Nat.eq_zero_or_pos sz with e | e
    · subst e; rw [hlen] at e3; simp at e3
    · exact e
  have hidx : m0.2.2 / sz * sz + m0.2.2 % sz = m0.2.2 := by
    have := Nat.div_add_mod m0.2.2 sz
    rw [Nat.mul_comm] at this; exact this
  have hin : m0.2.2 < arr.size := by rw [hr.size]; exact e3
  refine ⟨arr[m0.2.2], ?_, ?_⟩
  · rw [g3]
    have hblk : (w.alloc (.cells arr e)).heap[w.heap.size]? = some (Obj.cells arr e (0, 0)) := by
      show (w.heap.push _)[w.heap.size]? = _
      simp
    simp only [Node.cell, Nat.zero_add]
    rw [hidx, cell_of_block (a := ⟨w.heap.size, m0.2.2, none⟩) hblk rfl]
    exact Array.getElem?_eq_getElem hin
  · rw [g2 _ hne]
    exact e4 _ (Array.getElem?_eq_getElem hin)

theorem rowOk_empty : RowOk w0 M σ E [] [] (#[] : Array Value) := ⟨rfl, by simp, fun j c r hj => by simp at hj, by simp⟩

/-- A slice literal. -/
theorem good_rowLit (h : Sim w0 M E σ a.tmps w) {d : Nat} (hdst : o.dst = some d) (hd : d < a.tmps.size) {t e : TypeId} {len : Nat} {ps : Array (Nat × Operand)} {zs : List Cell} {tp : List Part} (hop : o.op = .buildSlice t len ps) (hu : P.underlying t = some (.slice e)) (hz : pZero P e zs = true) (hsz : pSize P e = some zs.length)
    (hsmall : len * zs.length ≤ 16777216) (hok : okParts (fun i => some (i * zs.length, zs.length)) tp ps.toList = true) {cs : List Cell} {ms : List (Nat × Nat × Nat)} {l : List PV} (hf : fillT σ tp (zrep zs len) [] = some (cs, ms)) (hlen : cs.length = len * zs.length) (hl : toPVs cs = some l)
    (hnd : ∀ m, m ∈ ms → m.1 ≠ d) {σ' : State} (hσ : putRowMv d zs.length (chunk zs.length len l) ms σ = some σ') : Good P a o w w0 M σ' := by
  obtain ⟨z, -, h2, ie, h3, h4⟩ := pZero_run hz
  have hs : ie.size = zs.length := by
    unfold pSize at hsz
    simpa [h3] using hsz
  by_cases h0 : len * zs.length = 0
  · have hcs0 : zrep zs len = [] := List.length_eq_zero_iff.1 (by rw [zrep_length]; exact h0)
    rw [hcs0] at hf
    obtain ⟨arr, f1, hr⟩ := fillT_sound h hok rowOk_empty hf
    refine good_row (e := e) h hdst hd hr hlen hl ?_ hnd hσ
    have f1' : Instr.fill (fun i => some (i * ie.size, ie.size)) #[] (ps.toList.map fun p => (p.1, a.eval p.2)) = some arr := by rw [hs]; exact f1
    have hb : (Instr.buildSlice t len (ps.map fun (i, x) => (i, a.eval x))).run P w = .ok (.slice (some ⟨w.heap.size, 0, none⟩) len len) (w.alloc (.cells arr e)) := by
      have h0' : len * ie.size = 0 := by rw [hs]; exact h0
      simp only [Instr.buildSlice, Sem.run_bind, run_underlying hu, Result.andThen, run_sizeOf (show pSize P e = some ie.size by rw [hs]; exact hsz), h0']
      simp [Array.range_zero', f1', newRow]
    simp only [execOp, hop]
    rw [Sem.run_bind, hb]
    rfl
  · obtain ⟨arr, f1, hr⟩ := fillT_sound h hok (rowOk_zeros h2 h0) hf
    refine good_row (e := e) h hdst hd hr hlen hl ?_ hnd hσ
    have hb := run_buildSlice (P := P) w t e len (ps.map fun (i, x) => (i, a.eval x)) arr ie z hu h3 h4 (by rw [hs]; omega) (by rw [hs]; exact h0) (by
      rw [hs, ← f1]
      congr 1
      simp)
    simp only [execOp, hop]
    rw [Sem.run_bind, hb]
    rfl

/-- make([]T, n), make([]T, n, c). -/
theorem good_mk (h : Sim w0 M E σ a.tmps w) {d : Nat} (hdst : o.dst = some d) (hd : d < a.tmps.size) {t e : TypeId} {x1 x2 : Opd} {y1 y2 : Operand} {zs : List Cell} {row : List PV} {bytes : Nat} (hop : o.op = .makeSlice t y1 y2) (ho1 : okOpd x1 y1 = true) (ho2 : okOpd x2 y2 = true) (hu : P.underlying t = some (.slice e)) (hz : pZero P e zs = true)
    (hsz : pSize P e = some zs.length) (hby : (P.info? e).map (·.bytes) = some bytes) (hrow : toPVs zs = some row) {n c : Int} (h1 : evInt σ x1 = some n) (h2 : evInt σ x2 = some c) (h0 : 0 ≤ n) (hnc : n ≤ c) (hb : (bytes : Int) * c ≤ 281474976710656) (h63 : c ≤ 9223372036854775807) :
    Good P a o w w0 M (putRow d zs.length (List.replicate n.toNat row) σ) := by
  obtain ⟨k1, e1⟩ := evInt_sound h ho1 h1
  obtain ⟨k2, e2⟩ := evInt_sound h ho2 h2
  obtain ⟨z, -, z2, ie, z3, z4⟩ := pZero_run hz
  have hs : ie.size = zs.length := by
    unfold pSize at hsz
    simpa [z3] using hsz
  have hby' : ie.bytes = bytes := by simpa [z3] using hby
  have hr := run_make (P := P) w t e ie z hu z3 z4 k1 k2 n c h0 hnc (by rw [hby']; exact hb) h63
  obtain ⟨r1, r2⟩ := toPVs_get hrow
  obtain ⟨v1, v2⟩ := okZs_val z2
  have hzs : z.cells.size = zs.length := by simpa using v1.symm
  obtain ⟨E', g1, -, -⟩ := h.putRow (e := e) hd (cap := c.toNat) (arr := madeCells z.cells (c.toNat * ie.size)) (sz := zs.length) (es := List.replicate n.toNat row) rfl h.frame (by simp; omega) (fun cs hcs => by
    rw [List.mem_replicate] at hcs; rw [hcs.2]; exact r1) (by rw [size_madeCells, hs]; omega) (fun i k cs x hi hk => by
    rw [List.getElem?_replicate] at hi
    split at hi
    · rename_i hin
      simp only [Option.some.injEq] at hi
      subst hi
      obtain ⟨cc, f1, f2⟩ := r2 k x hk
      obtain ⟨u, f3, f4⟩ := v2 k cc f1
      have hklt : k < zs.length := (List.getElem?_eq_some_iff.1 f1).1
      have hlt : i * zs.length + k < c.toNat * ie.size := by
        rw [hs]
        have : (i + 1) * zs.length ≤ c.toNat * zs.length := Nat.mul_le_mul_right _ (by omega)
        rw [Nat.add_mul, Nat.one_mul] at this
        omega
      refine ⟨u, ?_, toPV_val (w0 := w0) (M := M) (σ := σ) (E := E) f2 (okZ_val f4).1⟩
      have hm : (i * zs.length + k) % z.cells.size = k := by
        rw [hzs, Nat.mul_comm, Nat.mul_add_mod, Nat.mod_eq_of_lt hklt]
      simp only [madeCells, Array.getElem?_map, Array.getElem?_range, hlt, if_true, Option.map_some]
      rw [hm, getElem!_pos z.cells k (by omega)]
      simp only [Array.getElem?_toList] at f3
      rw [Array.getElem?_eq_getElem (by omega)] at f3
      exact f3
    · simp at hi)
  rw [List.length_replicate] at g1
  refine .inl ⟨_, _, ?_, E', by rw [put_tmps a hdst]; exact g1⟩
  simp only [execOp, hop, e1, e2]
  rw [Sem.run_bind, hr]
  rfl

end
end Go.Tq
/- append: what comes to an owned slice. -/
namespace Go.Tq
open Go.RowKit

theorem setCell_self {w : World} {a : Addr} {u : Value} (h : w.cell? a = some u) : w.setCell a u = w := by
  obtain ⟨c, e, fz, h1, h2, h3⟩ := cell_some_block h
  have hh : (w.setCell a u).heap = w.heap := by
    apply Array.ext_getElem?
    intro i
    simp only [World.setCell, Array.getElem?_modify]
    split
    · rename_i hi
      subst hi
      rw [h1]
      simp only [Option.map_some, h2, Option.isSome_none, Bool.false_eq_true, if_false, Option.some.injEq, Obj.cells.injEq, and_true]
      apply Array.ext_getElem?
      intro j
      rw [Array.getElem?_setIfInBounds]
      split
      · rename_i hj
        subst hj
        have hlt := (Array.getElem?_eq_some_iff.1 h3).1
        rw [if_pos hlt, h3]
      · rfl
    · rfl
  cases w
  simp only [World.setCell] at hh ⊢
  rw [hh]

/-- What comes to the end of an owned slice. -/
structure News (w : World) (sz : Nat) (ys : List (List PV)) (news : List Value) (β : Nat → Nat → Lay) : Prop where
  len : news.length = ys.length * sz
  row : ∀ cs, cs ∈ ys → cs.length = sz
  own : ∀ i k cs x, ys[i]? = some cs → cs[k]? = some x → ∃ u, news[i * sz + k]? = some u ∧ Own w x u (β i k)
  disj : ∀ i k i' k' cs cs' x x', ys[i]? = some cs → cs[k]? = some x → ys[i']? = some cs' → cs'[k']? = some x' → (i, k) ≠ (i', k') → ∀ a, Fp x (β i k) a → Fp x' (β i' k') a → False

/-- What news own. -/
def FpN (ys : List (List PV)) (β : Nat → Nat → Lay) (a : Addr) : Prop := ∃ i k cs x, ys[i]? = some cs ∧ cs[k]? = some x ∧ Fp x (β i k) a

def catLay (lx : Nat) (α : Lay) (β : Nat → Nat → Lay) (i k : Nat) : Lay := if i < lx then fun r => α (r ++ [(i, k)]) else β (i - lx) k

section
variable {P : Program} {w w0 : World} {M : MN}

theorem cat_disj {w1 : World} {sz : Nat} {xs ys : List (List PV)} {v : Value} {α : Lay} {news : List Value} {β : Nat → Nat → Lay} (hx : Own w1 (.sl sz false xs) v α) (hy : News w1 sz ys news β) (hxy : ∀ a, Fp (.sl sz false xs) α a → FpN ys β a → False)
    {i k i' k' : Nat} {cs cs' : List PV} {x x' : PV} (h1 : (xs ++ ys)[i]? = some cs) (h2 : cs[k]? = some x) (h3 : (xs ++ ys)[i']? = some cs') (h4 : cs'[k']? = some x') (hne : (i, k) ≠ (i', k')) {a : Addr} (ha : Fp x (catLay xs.length α β i k) a) (ha' : Fp x' (catLay xs.length α β i' k') a) : False := by
  unfold catLay at ha ha'
  rw [List.getElem?_append] at h1 h3
  by_cases e1 : i < xs.length
  · rw [if_pos e1] at ha h1
    by_cases e2 : i' < xs.length
    · rw [if_pos e2] at ha' h3
      exact hx.elem_disj h1 h2 h3 h4 hne ha ha'
    · rw [if_neg e2] at ha' h3
      exact hxy a (fp_elem h1 h2 ha) ⟨_, _, _, _, h3, h4, ha'⟩
  · rw [if_neg e1] at ha h1
    by_cases e2 : i' < xs.length
    · rw [if_pos e2] at ha' h3
      exact hxy a (fp_elem h3 h4 ha') ⟨_, _, _, _, h1, h2, ha⟩
    · rw [if_neg e2] at ha' h3
      exact hy.disj _ _ _ _ _ _ _ _ h1 h2 h3 h4 (fun e => hne (by simp only [Prod.mk.injEq] at e ⊢; omega)) a ha ha'

/-- In place: there is room behind the slice's end. -/
theorem own_append_in {sz : Nat} {xs ys : List (List PV)} {v : Value} {α : Lay} {news : List Value} {β : Nat → Nat → Lay} (hx : Own w (.sl sz false xs) v α) (hy : News w sz ys news β) (hxy : ∀ a, Fp (.sl sz false xs) α a → FpN ys β a → False)
    (hroom : xs.length + ys.length ≤ (α []).cap) :
    let w' := putCells (α []).blk ((α []).off + xs.length * sz) news w
    Own w' (.sl sz false (xs ++ ys)) (.slice (some (α []).base) (xs ++ ys).length (α []).cap) (rowLay (α []) (catLay xs.length α β)) ∧ (∀ j, j < news.length → (α []).ext ⟨(α []).blk, (α []).off + xs.length * sz + j, none⟩) ∧
    (∀ j, j < news.length → ∃ u, w.cell? ⟨(α []).blk, (α []).off + xs.length * sz + j, none⟩ = some u) ∧ (∀ j, j < news.length → w.frozen? ⟨(α []).blk, (α []).off + xs.length * sz + j, none⟩ = false) ∧
    (∀ a u, ¬ (α []).ext a → w.cell? a = some u → w'.cell? a = some u) := by
  intro w'
  have hn := hx.node [] sz xs rfl
  obtain ⟨n1, n2, n3, ⟨c, e, fz, n4, n5⟩, n6⟩ := hn
  have hsz : xs.length * sz + news.length ≤ (α []).cap * sz := by
    rw [hy.len, ← Nat.add_mul]
    exact Nat.mul_le_mul_right _ hroom
  have hext : ∀ j, j < news.length → (α []).ext ⟨(α []).blk, (α []).off + xs.length * sz + j, none⟩ := by
    intro j hj
    refine ⟨rfl, by simp only; omega, ?_⟩
    simp only [n1]
    omega
  have hcell : ∀ j, j < news.length → ∃ u, w.cell? ⟨(α []).blk, (α []).off + xs.length * sz + j, none⟩ = some u := by
    intro j hj
    rw [cell_of_block (a := ⟨(α []).blk, (α []).off + xs.length * sz + j, none⟩) n4 rfl]
    have hlt : (α []).off + xs.length * sz + j < c.size := by rw [n1] at n5; omega
    exact ⟨_, Array.getElem?_eq_getElem hlt⟩
  have hother : ∀ a u, ¬ (α []).ext a → w.cell? a = some u → w'.cell? a = some u := by
    intro a u hna hu
    refine putCells_other _ _ _ _ a u (fun j hj e => hna ?_) hu
    subst e
    exact hext j hj
  have hshp : Shp w w' := shp_putCells _ _ _ _
  refine ⟨Own.row (us := fun i k => (w'.cell? ((α []).cell i k)).getD default) ?_ ?_ ?_ ?_, hext, hcell, fun j hj => n6 _ (hext j hj), hother⟩
  · refine NodeOk.shp hshp ⟨n1, by simp; omega, fun cs hcs => ?_, ⟨c, e, fz, n4, n5⟩, n6⟩
    rw [List.mem_append] at hcs
    rcases hcs with h | h
    · exact n3 cs h
    · exact hy.row cs h
  · intro i k cs x h1 h2
    rw [List.getElem?_append] at h1
    unfold catLay
    by_cases e1 : i < xs.length
    · rw [if_pos e1] at h1 ⊢
      obtain ⟨u, g1, g2⟩ := hx.elem h1 h2
      have hk : k < sz := by rw [← n3 cs (List.mem_of_getElem? h1)]; exact (List.getElem?_eq_some_iff.1 h2).1
      have hw' : w'.cell? ((α []).cell i k) = some u := by
        refine putCells_other _ _ _ _ _ u (fun j hj e => ?_) g1
        simp only [Node.cell, Addr.mk.injEq, true_and, and_true, n1] at e
        have : (i + 1) * sz ≤ xs.length * sz := Nat.mul_le_mul_right _ e1
        rw [Nat.add_mul, Nat.one_mul] at this
        omega
      rw [hw']
      exact ⟨rfl, g2.frame hshp fun a ha u2 hu2 => hother a u2 (fun hext2 => hx.elem_top h1 h2 ha hext2) hu2⟩
    · rw [if_neg e1] at h1 ⊢
      obtain ⟨u, g1, g2⟩ := hy.own _ k cs x h1 h2
      have hat := putCells_at (α []).blk news ((α []).off + xs.length * sz) w hcell _ u g1
      have hw' : w'.cell? ((α []).cell i k) = some u := by
        have e2 : (α []).cell i k = ⟨(α []).blk, (α []).off + xs.length * sz + ((i - xs.length) * sz + k), none⟩ := by
          simp only [Node.cell, Addr.mk.injEq, true_and, and_true, n1]
          have : i * sz = xs.length * sz + (i - xs.length) * sz := by rw [← Nat.add_mul]; congr 1; omega
          omega
        rw [e2]; exact hat
      rw [hw']
      exact ⟨rfl, g2.frame hshp fun a ha u2 hu2 => hother a u2 (fun hext2 => hxy a (fp_top hext2) ⟨_, _, _, _, h1, h2, ha⟩) hu2⟩
  · intro i k i' k' cs cs' x x' h1 h2 h3 h4 hne a ha ha'
    exact cat_disj hx hy hxy h1 h2 h3 h4 hne ha ha'
  · intro i k cs x h1 h2 a ha hext2
    rw [List.getElem?_append] at h1
    unfold catLay at ha
    by_cases e1 : i < xs.length
    · rw [if_pos e1] at h1 ha
      exact hx.elem_top h1 h2 ha hext2
    · rw [if_neg e1] at h1 ha
      exact hxy a (fp_top hext2) ⟨_, _, _, _, h1, h2, ha⟩

/-- In a new block. -/
theorem own_append_new {sz cap : Nat} {xs ys : List (List PV)} {v : Value} {α : Lay} {news : List Value} {β : Nat → Nat → Lay} {olds : List Value} {arr : Array Value} {e : TypeId} {w1 : World} (hh : w1.heap = w.heap) (hx : Own w (.sl sz false xs) v α) (hy : News w sz ys news β) (hxy : ∀ a, Fp (.sl sz false xs) α a → FpN ys β a → False)
    (hlt : ∀ a, Fp (.sl sz false xs) α a ∨ FpN ys β a → a.block < w.heap.size)
    (holds : olds.length = xs.length * sz) (hold : ∀ (j : Nat) u, olds[j]? = some u → w.cell? ⟨(α []).blk, (α []).off + j, none⟩ = some u) (harr : ∀ (j : Nat) u, (olds ++ news)[j]? = some u → arr[j]? = some u) (hcap : xs.length + ys.length ≤ cap) (hsize : cap * sz ≤ arr.size) :
    Own (w1.alloc (.cells arr e)) (.sl sz false (xs ++ ys)) (.slice (some ⟨w.heap.size, 0, none⟩) (xs ++ ys).length cap) (rowLay ⟨w.heap.size, 0, cap, sz⟩ (catLay xs.length α β)) := by
  have hn := hx.node [] sz xs rfl
  obtain ⟨n1, n2, n3, n4, n6⟩ := hn
  have hcellk : ∀ {b : Addr} {u : Value}, w.cell? b = some u → (w1.alloc (.cells arr e)).cell? b = some u := by
    intro b u hb
    refine cell_alloc ?_ _
    unfold World.cell? at hb ⊢
    rw [hh]; exact hb
  have hshp : Shp w (w1.alloc (.cells arr e)) := (show Shp w w1 from fun b c e fz hb => ⟨c, by rw [hh]; exact hb, rfl⟩).trans (shp_alloc _ _)
  have hblk : (w1.alloc (.cells arr e)).heap[w.heap.size]? = some (Obj.cells arr e (0, 0)) := by
    show (w1.heap.push _)[w.heap.size]? = _
    rw [← hh]; simp
  have hat : ∀ (j : Nat) u, arr[j]? = some u → (w1.alloc (.cells arr e)).cell? ⟨w.heap.size, j, none⟩ = some u := by
    intro j u hj
    rw [cell_of_block (a := ⟨w.heap.size, j, none⟩) hblk rfl]; exact hj
  refine Own.row (n := ⟨w.heap.size, 0, cap, sz⟩) (us := fun i k => arr.getD (i * sz + k) default) ⟨rfl, by simp; omega, fun cs hcs => ?_, ⟨arr, e, (0, 0), hblk, by simpa using hsize⟩, fun a ha => ?_⟩ ?_ ?_ ?_
  · rw [List.mem_append] at hcs
    rcases hcs with h | h
    · exact n3 cs h
    · exact hy.row cs h
  · unfold World.frozen?
    rw [ha.1, hblk]
    simp
  · intro i k cs x h1 h2
    rw [List.getElem?_append] at h1
    unfold catLay
    by_cases e1 : i < xs.length
    · rw [if_pos e1] at h1 ⊢
      obtain ⟨u, g1, g2⟩ := hx.elem h1 h2
      have hk : k < sz := by rw [← n3 cs (List.mem_of_getElem? h1)]; exact (List.getElem?_eq_some_iff.1 h2).1
      have hlt2 : i * sz + k < olds.length := by
        have : (i + 1) * sz ≤ xs.length * sz := Nat.mul_le_mul_right _ e1
        rw [Nat.add_mul, Nat.one_mul] at this
        omega
      have hou := hold _ _ (List.getElem?_eq_getElem hlt2)
      have e2 : (α []).cell i k = ⟨(α []).blk, (α []).off + (i * sz + k), none⟩ := by
        simp only [Node.cell, Addr.mk.injEq, true_and, and_true, n1]; omega
      rw [e2, hou] at g1
      simp only [Option.some.injEq] at g1
      have ha := harr (i * sz + k) u (by rw [List.getElem?_append_left hlt2, List.getElem?_eq_getElem hlt2, g1])
      have hg : arr.getD (i * sz + k) default = u := by simp [Array.getD_eq_getD_getElem?, ha]
      rw [hg]
      refine ⟨by simpa [Node.cell] using hat _ u ha, g2.frame hshp fun a _ u2 hu2 => hcellk hu2⟩
    · rw [if_neg e1] at h1 ⊢
      obtain ⟨u, g1, g2⟩ := hy.own _ k cs x h1 h2
      have e2 : i * sz + k = olds.length + ((i - xs.length) * sz + k) := by
        rw [holds]
        have : i * sz = xs.length * sz + (i - xs.length) * sz := by rw [← Nat.add_mul]; congr 1; omega
        omega
      have ha := harr (i * sz + k) u (by rw [e2, List.getElem?_append_right (by omega)]; rw [← g1]; congr 1; omega)
      have hg : arr.getD (i * sz + k) default = u := by simp [Array.getD_eq_getD_getElem?, ha]
      rw [hg]
      refine ⟨by simpa [Node.cell] using hat _ u ha, g2.frame hshp fun a _ u2 hu2 => hcellk hu2⟩
  · intro i k i' k' cs cs' x x' h1 h2 h3 h4 hne a ha ha'
    exact cat_disj hx hy hxy h1 h2 h3 h4 hne ha ha'
  · intro i k cs x h1 h2 a ha hext2
    rw [List.getElem?_append] at h1
    unfold catLay at ha
    have hb : a.block < w.heap.size := by
      by_cases e1 : i < xs.length
      · rw [if_pos e1] at h1 ha
        exact hlt a (.inl (fp_elem h1 h2 ha))
      · rw [if_neg e1] at h1 ha
        exact hlt a (.inr ⟨_, _, _, _, h1, h2, ha⟩)
    have := hext2.1
    simp only at this
    omega

theorem fp_cat {sz : Nat} {xs ys : List (List PV)} {α : Lay} {β : Nat → Nat → Lay} {n : Node} {a : Addr} (h : Fp (.sl sz false (xs ++ ys)) (rowLay n (catLay xs.length α β)) a) : n.ext a ∨ Fp (.sl sz false xs) α a ∨ FpN ys β a := by
  rcases fp_row h with h1 | ⟨i, k, cs, x, h1, h2, h3⟩
  · exact .inl h1
  · rw [List.getElem?_append] at h1
    unfold catLay at h3
    by_cases e1 : i < xs.length
    · rw [if_pos e1] at h1 h3
      exact .inr (.inl (fp_elem h1 h2 h3))
    · rw [if_neg e1] at h1 h3
      exact .inr (.inr ⟨_, _, _, _, h1, h2, h3⟩)

end
end Go.Tq
